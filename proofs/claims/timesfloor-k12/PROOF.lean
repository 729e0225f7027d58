import PyProof.Rows.All
import Wide.All
import OpenK.AllK
import Wide.FinOn
import PySem.PyData
import HandS.TupMul
import HandS.ForMost
import HandS.ForExc
import HandS.Wide
import HandS.IsInst
import HandS.Flow
import HandS.Codes
import HandS.Deep
import HandS.Zip
import HandS.Walk
import KE.GoesNew
import HandS.TupSets
import KE.KeyNested
import PyProof.WalksMore
import HandS.Words
import HandS.OwnEq
import PyProof.InstNe
import HandS.Nested
import HandS.ClsMeth
import HandS.Star
import KE.KSuper
import PyProof.ReprRoads
import PyProof.ReprLen
import HandS.ExcInit
import HandS.ExcSuper
import HandS.FStr
import KE.KExcSuper
import HandS.Lambda
import HandS.ExcIs
import HandS.ExcField
import KE.KIsAll
import KE.KTryMore
import HandS.Dict
import PyProof.StrBlock2
import HandS.EndTab
import HandS.HeadHook4
import HandS.Head2
import PySem.Challenge.RW_timesfloor_k12_whole_machines_moved_and
section
set_option linter.all false
/-! Numbers in lowest form, as rationals; plain Lean. -/
namespace T12
open PySem
/-- a number as data: an int, or the pair of what stands above and under -/
def numD (q : Rat) : PyData := if q.den = 1 then .int q.num else .tuple [.int q.num, .int (q.den : Nat)]
theorem numD_int (i : Int) : numD (i : Rat) = .int i := by
  unfold numD
  rw [if_pos (by simp)]
  simp
theorem numD_one {q : Rat} (h : q.den = 1) : numD q = .int q.num := if_pos h
theorem numD_two {q : Rat} (h : ¬ q.den = 1) : numD q = .tuple [.int q.num, .int (q.den : Nat)] := if_neg h
theorem numD_inj {p q : Rat} (h : numD p = numD q) : p = q := by
  unfold numD at h
  apply Rat.ext
  · split at h <;> split at h <;> simp_all
  · split at h <;> split at h <;> simp_all
    omega
/-- the greatest common factor, as the loop reckons it -/
def gcdI (a : Int) (b : Nat) : Nat := b.gcd a.natAbs
theorem gcdI_pos {a : Int} {b : Nat} (hb : 0 < b) : 0 < gcdI a b := Nat.gcd_pos_of_pos_left _ hb
theorem gcdI_le {a : Int} {b : Nat} (hb : 0 < b) : gcdI a b ≤ b := Nat.gcd_le_left _ hb
theorem mk_num {a : Int} {b : Nat} (hb : 0 < b) : (mkRat a b).num = a / (gcdI a b : Nat) := by
  rw [Rat.num_mkRat, if_neg (by omega)]; rfl
theorem mk_den {a : Int} {b : Nat} (hb : 0 < b) : (mkRat a b).den = b / gcdI a b := by
  rw [Rat.den_mkRat, if_neg (by omega)]; rfl
theorem mk_den' {a : Int} {b : Nat} (hb : 0 < b) : (((mkRat a b).den : Nat) : Int) = (b : Int) / (gcdI a b : Nat) := by
  rw [mk_den hb]; simp
theorem numD_mk {a : Int} {b : Nat} (hb : 0 < b) : numD (mkRat a b) = if (b : Int) / (gcdI a b : Nat) = 1 then .int (a / (gcdI a b : Nat)) else .tuple [.int (a / (gcdI a b : Nat)), .int ((b : Int) / (gcdI a b : Nat))] := by
  unfold numD
  have h := mk_den' (a := a) hb
  by_cases c : (mkRat a b).den = 1
  · rw [if_pos c, if_pos (by rw [← h, c]; rfl), mk_num hb]
  · rw [if_neg c, if_neg (by rw [← h]; omega), mk_num hb, h]
/-- bounds -/
def Sm (q : Rat) : Prop := q.num.natAbs < 2 ^ 1000 ∧ q.den < 2 ^ 1000
/-- q is k / D, k at most N -/
def Wi (D N : Nat) (q : Rat) : Prop := 0 < D ∧ ∃ k : Int, q = mkRat k D ∧ k.natAbs ≤ N
theorem Wi.num {D N : Nat} {q : Rat} (h : Wi D N q) : q.num.natAbs ≤ N := by
  obtain ⟨hD, k, rfl, hk⟩ := h
  rw [mk_num hD]
  refine Nat.le_trans ?_ hk
  have hg := gcdI_pos (a := k) hD
  rw [Int.natAbs_ediv_of_dvd (by
    show ((gcdI k D : Nat) : Int) ∣ k
    exact Int.ofNat_dvd_left.mpr (Nat.gcd_dvd_right _ _))]
  exact Nat.div_le_self _ _
theorem Wi.den {D N : Nat} {q : Rat} (h : Wi D N q) : q.den ≤ D := by
  obtain ⟨hD, k, rfl, hk⟩ := h
  rw [mk_den hD]
  exact Nat.div_le_self _ _
theorem Wi.sm {D N : Nat} {q : Rat} (h : Wi D N q) (h1 : D < 2 ^ 1000) (h2 : N < 2 ^ 1000) : Sm q := ⟨Nat.lt_of_le_of_lt h.num h2, Nat.lt_of_le_of_lt h.den h1⟩
theorem mk_mul_right {k : Int} {D c : Nat} (hc : 0 < c) : mkRat (k * c) (D * c) = mkRat k D := Rat.mkRat_mul_right (by omega)
theorem Wi.scale {D N c : Nat} {q : Rat} (hc : 0 < c) (h : Wi D N q) : Wi (D * c) (N * c) q := by
  obtain ⟨hD, k, rfl, hk⟩ := h
  refine ⟨Nat.mul_pos hD hc, k * c, (mk_mul_right hc).symm, ?_⟩
  rw [Int.natAbs_mul, Int.natAbs_natCast]
  exact Nat.mul_le_mul_right _ hk
theorem Wi.mono {D N N' : Nat} {q : Rat} (h : Wi D N q) (hn : N ≤ N') : Wi D N' q := ⟨h.1, let ⟨k, e, hk⟩ := h.2; ⟨k, e, Nat.le_trans hk hn⟩⟩
theorem Wi.add {D N N' : Nat} {p q : Rat} (h : Wi D N p) (h' : Wi D N' q) : Wi D (N + N') (p + q) := by
  obtain ⟨hD, k, rfl, hk⟩ := h
  obtain ⟨_, k', rfl, hk'⟩ := h'
  refine ⟨hD, k + k', ?_, by omega⟩
  rw [Rat.mkRat_add_mkRat _ _ (by omega) (by omega)]
  have : mkRat (k * D + k' * D) (D * D) = mkRat ((k + k') * D) (D * D) := by rw [Int.add_mul]
  rw [this, mk_mul_right hD]
theorem Wi.mul {D D' N N' : Nat} {p q : Rat} (h : Wi D N p) (h' : Wi D' N' q) : Wi (D * D') (N * N') (p * q) := by
  obtain ⟨hD, k, rfl, hk⟩ := h
  obtain ⟨hD', k', rfl, hk'⟩ := h'
  refine ⟨Nat.mul_pos hD hD', k * k', ?_, ?_⟩
  · rw [Rat.mkRat_mul_mkRat]
  · rw [Int.natAbs_mul]; exact Nat.mul_le_mul hk hk'
theorem Wi.int {D N : Nat} {i : Int} (hD : 0 < D) (h : i.natAbs ≤ N) : Wi D (N * D) (i : Rat) := by
  refine ⟨hD, i * D, ?_, ?_⟩
  · have : ((i : Rat)) = mkRat i 1 := by
      rw [Rat.mkRat_eq_div]
      grind
    rw [this]
    have e := mk_mul_right (k := i) (D := 1) hD
    rw [Nat.one_mul] at e
    exact e.symm
  · rw [Int.natAbs_mul, Int.natAbs_natCast]; exact Nat.mul_le_mul_right _ h
theorem Wi.of {D N : Nat} {k : Int} (hD : 0 < D) (h : k.natAbs ≤ N) : Wi D N (mkRat k D) := ⟨hD, k, rfl, h⟩
theorem Wi.neg {D N : Nat} {q : Rat} (h : Wi D N q) : Wi D N (-q) := by
  obtain ⟨hD, k, rfl, hk⟩ := h
  refine ⟨hD, -k, ?_, by omega⟩
  rw [Rat.neg_mkRat]
/-- sums and products as the program reckons them -/
theorem add_mk (p q : Rat) : p + q = mkRat (p.num * (q.den : Nat) + q.num * (p.den : Nat)) (p.den * q.den) := Rat.add_def' p q
theorem mul_mk (p q : Rat) : p * q = mkRat (p.num * q.num) (p.den * q.den) := Rat.mul_def' p q
theorem lt_mk (p q : Rat) : p < q ↔ p.num * (q.den : Nat) < q.num * (p.den : Nat) := Rat.lt_iff p q
theorem Sm.mul2 {p q : Rat} (h : Sm p) (h' : Sm q) : (p.num * q.num).natAbs < 2 ^ 2000 := by
  rw [Int.natAbs_mul, show (2000 : Nat) = 1000 + 1000 from rfl, Nat.pow_add]
  exact Nat.mul_lt_mul'' h.1 h'.1
theorem Sm.mix {p q : Rat} (h : Sm p) (h' : Sm q) : (p.num * (q.den : Nat)).natAbs < 2 ^ 2000 := by
  rw [Int.natAbs_mul, Int.natAbs_natCast, show (2000 : Nat) = 1000 + 1000 from rfl, Nat.pow_add]
  exact Nat.mul_lt_mul'' h.1 h'.2
theorem Sm.dens {p q : Rat} (h : Sm p) (h' : Sm q) : p.den * q.den < 2 ^ 2000 := by
  rw [show (2000 : Nat) = 1000 + 1000 from rfl, Nat.pow_add]
  exact Nat.mul_lt_mul'' h.2 h'.2
theorem Sm.int {i : Int} (h : i.natAbs < 2 ^ 1000) : Sm (i : Rat) := ⟨by simpa using h, by simp⟩
end T12
end
section
set_option Elab.async false
set_option linter.all false
set_option maxRecDepth 100000
set_option maxHeartbeats 4000000
namespace T12
open PySem PySem.Spec PyProof.Rows L2
/-! tuple * 1: the same tuple -/
theorem tuple_mul1 (l : Addr) (items : Array Value) (n : Nat) (dd : Option Addr) (sl : Array (Option Value)) (u : Tok) :
    Meets (Builtin.«tuple.__mul__» ⟨[.ref l, .int 1 u], []⟩) (fun _ R s => s.heap.get? l = some { cls := .type "tuple", dict := dd, data := .seq items n, slots := sl } ∧
      R (.ok (.ret (Value.ref l))) s) :=
  .of_wp fun prog w A R s h => by
    obtain ⟨hp, g, d, tk, os⟩ := s
    obtain ⟨hl, h⟩ := h
    have f1 := AutoSeq1.idx_int
    have c0 : (decide ((1:Int) < -(2 ^ 63)) || decide ((1:Int) ≥ 2 ^ 63)) = false := by decide
    have c1 : (items.isEmpty || (1:Int) == 1) = true := by simp
    wp_walk using wpAny_loadPart' hl
    repeat (first
      | (refine wpAny_ite_false (decide_eq_false (by rw [c0]; exact Bool.false_ne_true)) ?_; wp_walk using wpAny_loadPart' hl)
      | (refine wpAny_ite_true (decide_eq_true (by rw [c1])) ?_; wp_walk using wpAny_loadPart' hl))
    exact ⟨_, rfl, h⟩
def rRep1 (K : PySem.W.Frag) : R2 := fun x y H Q => ∃ l xs, x = .ref l ∧ y = .int 1 ∧ SqT K H l xs ∧ Q (.ref l) H
section
variable {X : Cx}
theorem op_rep1 : OpR X (binaryOp .Mult) (rRep1 X.K) := by
  intro pins s σ H x y v u Q I rx ry h
  obtain ⟨l, xs, rfl, rfl, hT, q⟩ := h
  cases rx
  obtain ⟨t, rfl⟩ := ry
  obtain ⟨its, r, ⟨⟨cls, dd, data, sl⟩, ho, hc, n, hd⟩, hs⟩ := I.tuple hT
  simp only at hc hd
  subst hc hd
  refine wpAny_binaryOp_repeat_ref (T := "tuple") (U := "int") (by decide) ⟨_, ho, rfl⟩ (fun s' => typeIs_int s' 1 t) noFill_tuple_mul F.fills_int_mul F.slot_int_rmul repeat_tuple F.slot_int_index.lookup
    (call_meets F.slot_int_rmul (typeIs_int s 1 t) F.entry_int_rmul (F.args_int_rmul_2 _ _) (int_rmul_tuple 1 t l its.toArray n dd sl)
      ⟨ho, rfl, ⟨_, ho, rfl⟩, call_meets F.slot_tuple_mul ⟨_, ho, rfl⟩ F.entry_tuple_mul (F.args_tuple_mul_2 _ _) (tuple_mul1 l its.toArray n dd sl t) ⟨ho, ?_⟩⟩)
  exact ⟨.ref l, H, I, rfl, q⟩
end
end T12
end
section
set_option Elab.async false
set_option linter.all false
set_option maxRecDepth 100000
set_option maxHeartbeats 2000000
/-! The data layer: a def's names hold plain data, or lists that are being changed; its readings over that. -/
namespace T12
open PySem PySem.Spec PyProof.Rows L2

/-! ### data in an abstract heap -/
mutual
/-- the value is this data, by what is tracked -/
inductive Dv (G : Hp) : V → PyData → Prop
  | non : Dv G .non .none
  | bl (b : Bool) : Dv G (.bl b) (.bool b)
  | int (i : Int) : Dv G (.int i) (.int i)
  | str (x : Str) : Dv G (.str x) (.str x)
  | lst {a : Addr} {xs : List V} {ds : List PyData} : Rd G a (.lst xs) → DvAll G xs ds → Dv G (.ref a) (.list ds)
  | tup {a : Addr} {xs : List V} {ds : List PyData} : G a = some (.tup xs) → DvAll G xs ds → Dv G (.ref a) (.tuple ds)
inductive DvAll (G : Hp) : List V → List PyData → Prop
  | nil : DvAll G [] []
  | cons {v : V} {vs : List V} {d : PyData} {ds : List PyData} : Dv G v d → DvAll G vs ds → DvAll G (v :: vs) (d :: ds)
end
/-- one heap goes on from another -/
def Ex (G G' : Hp) : Prop := ∀ a o, G a = some o → G' a = some o
theorem Ex.refl (G : Hp) : Ex G G := fun _ _ h => h
theorem Ex.trans {G G1 G2 : Hp} (a : Ex G G1) (b : Ex G1 G2) : Ex G G2 := fun x o h => b x o (a x o h)
theorem Ex.rd {G G' : Hp} (e : Ex G G') {a : Addr} {u : HO} (h : Rd G a u) : Rd G' a u := by
  rcases h with h | ⟨o, h⟩
  · exact .inl (e a _ h)
  · exact .inr ⟨o, e a _ h⟩
mutual
theorem Dv.mono {G G' : Hp} (e : Ex G G') : ∀ (d : PyData) (v : V), Dv G v d → Dv G' v d
  | .none, _, h => by cases h; exact .non
  | .bool b, _, h => by cases h; exact .bl b
  | .int i, _, h => by cases h; exact .int i
  | .str x, _, h => by cases h; exact .str x
  | .list ds, _, h => by
    cases h with
    | lst h1 h2 => exact .lst (e.rd h1) (DvAll.mono e ds _ h2)
  | .tuple ds, _, h => by
    cases h with
    | tup h1 h2 => exact .tup (e _ _ h1) (DvAll.mono e ds _ h2)
  | .dict _, _, h => by cases h
theorem DvAll.mono {G G' : Hp} (e : Ex G G') : ∀ (ds : List PyData) (vs : List V), DvAll G vs ds → DvAll G' vs ds
  | [], _, h => by cases h; exact .nil
  | d :: ds, _, h => by
    cases h with
    | cons h1 h2 => exact .cons (Dv.mono e d _ h1) (DvAll.mono e ds _ h2)
end
mutual
theorem Dv.dp {K : PySem.W.Frag} {G G' : Hp} (e : Ex G G') : ∀ (d : PyData) (v : V), Dv G v d → Dp K G' v d
  | .none, _, h => by cases h; exact .non
  | .bool b, _, h => by cases h; exact .bl b
  | .int i, _, h => by cases h; exact .int i
  | .str x, _, h => by cases h; exact .str x
  | .list ds, _, h => by
    cases h with
    | lst h1 h2 => exact .lst (.inl (e.rd h1)) (DvAll.dp e ds _ h2)
  | .tuple ds, _, h => by
    cases h with
    | tup h1 h2 => exact .tup (SqT.of (e _ _ h1)) (DvAll.dp e ds _ h2)
  | .dict _, _, h => by cases h
theorem DvAll.dp {K : PySem.W.Frag} {G G' : Hp} (e : Ex G G') : ∀ (ds : List PyData) (vs : List V), DvAll G vs ds → DpAll K G' vs ds
  | [], _, h => by cases h; exact .nil
  | d :: ds, _, h => by
    cases h with
    | cons h1 h2 => exact .cons (Dv.dp e d _ h1) (DvAll.dp e ds _ h2)
end
theorem DvAll.len {G : Hp} : ∀ {vs : List V} {ds : List PyData}, DvAll G vs ds → vs.length = ds.length
  | _, _, .nil => rfl
  | _, _, .cons _ t => by rw [List.length_cons, List.length_cons, DvAll.len t]
theorem DvAll.get {G : Hp} : ∀ {vs : List V} {ds : List PyData} {i : Nat} {d : PyData}, DvAll G vs ds → ds[i]? = some d → ∃ v, vs[i]? = some v ∧ Dv G v d
  | _, _, _, _, .nil, e => by simp at e
  | _, _, 0, _, .cons r _, e => by
    obtain rfl := Option.some.inj (by simpa using e)
    exact ⟨_, rfl, r⟩
  | _, _, i + 1, d, .cons _ t, e => by
    obtain ⟨v, h1, h2⟩ := DvAll.get (i := i) (d := d) t (by simpa using e)
    exact ⟨v, by simpa using h1, h2⟩
theorem DvAll.back {G : Hp} : ∀ {vs : List V} {ds : List PyData} {i : Nat} {v : V}, DvAll G vs ds → vs[i]? = some v → ∃ d, ds[i]? = some d ∧ Dv G v d
  | _, _, _, _, .nil, e => by simp at e
  | _, _, 0, _, .cons r _, e => by
    obtain rfl := Option.some.inj (by simpa using e)
    exact ⟨_, rfl, r⟩
  | _, _, i + 1, d, .cons _ t, e => by
    obtain ⟨v, h1, h2⟩ := DvAll.back (i := i) (v := d) t (by simpa using e)
    exact ⟨v, by simpa using h1, h2⟩
theorem DvAll.app {G : Hp} : ∀ {vs ws : List V} {ds es : List PyData}, DvAll G vs ds → DvAll G ws es → DvAll G (vs ++ ws) (ds ++ es)
  | _, _, _, _, .nil, s => s
  | _, _, _, _, .cons r t, s => .cons r (DvAll.app t s)
theorem DvAll.set {G : Hp} {v : V} {d : PyData} (r : Dv G v d) : ∀ {vs : List V} {ds : List PyData} (i : Nat), DvAll G vs ds → DvAll G (vs.set i v) (ds.set i d)
  | _, _, _, .nil => .nil
  | _, _, 0, .cons _ t => .cons r t
  | _, _, i + 1, .cons q t => .cons q (DvAll.set r i t)
theorem DvAll.take {G : Hp} : ∀ {vs : List V} {ds : List PyData} (n : Nat), DvAll G vs ds → DvAll G (vs.take n) (ds.take n)
  | _, _, 0, _ => .nil
  | _, _, _ + 1, .nil => .nil
  | _, _, n + 1, .cons r t => .cons r (DvAll.take n t)

/-! ### what a name holds -/
/-- what may be said of a value, kept by heaps that go on -/
structure PrR where
  R : Hp → V → Prop
  mono : ∀ G G' v, Ex G G' → R G v → R G' v
inductive SV where
  /-- data -/
  | d (p : PyData)
  /-- the list at a, which is being changed -/
  | m (a : Addr)
  /-- an instance of the class at C with these attributes -/
  | o (C : Addr) (fs : List (Str × PyData))
  /-- some value of a built-in type -/
  | t (T : String)
  /-- some value of which this is known -/
  | pr (r : PrR)
/-- the lists that are being changed, and what they hold -/
abbrev Mu := Addr → Option (List PyData)
def hid (H : Hp) (μ : Mu) : Hp := fun b => match μ b with
  | none => H b
  | some _ => none
theorem hid_of {H : Hp} {μ : Mu} {b : Addr} (h : μ b = none) : hid H μ b = H b := by unfold hid; rw [h]
theorem hid_le {H : Hp} {μ : Mu} : Ex (hid H μ) H := fun b o h => by
  unfold hid at h
  cases e : μ b with
  | none => rw [e] at h; exact h
  | some _ => rw [e] at h; cases h
theorem hid_mu {H : Hp} {μ : Mu} {b : Addr} {o : HO} (h : hid H μ b = some o) : μ b = none := by
  unfold hid at h
  cases e : μ b with
  | none => rfl
  | some _ => rw [e] at h; cases h
abbrev FDv (G : Hp) : List (Str × V) → List (Str × PyData) → Prop := Paired fun (p : Str × V) (q : Str × PyData) => p.1 = q.1 ∧ Dv G p.2 q.2
def Rv (K : PySem.W.Frag) (G : Hp) : SV → V → Prop
  | .d p, v => Dv G v p
  | .m a, v => v = .ref a
  | .o C fs, v => ∃ a dx vs, v = .ref a ∧ G a = some (.ins C dx vs) ∧ FDv G vs fs
  | .t T, v => TyOf K G v (.type T)
  | .pr r, v => r.R G v
theorem Paired.imp {α β : Type} {F F' : α → β → Prop} (h : ∀ a b, F a b → F' a b) : ∀ {l : List α} {r : List β}, Paired F l r → Paired F' l r
  | _, _, .nil => .nil
  | _, _, .cons q t => .cons (h _ _ q) (Paired.imp h t)
theorem TyOf.mono {K : PySem.W.Frag} {G G' : Hp} (e : Ex G G') {v : V} {t : Value} (h : TyOf K G v t) : TyOf K G' v t := by
  cases h with
  | non => exact .non
  | bl x => exact .bl x
  | int i => exact .int i
  | str x => exact .str x
  | flt x => exact .flt x
  | lst q => exact .lst (e _ _ q)
  | frz q => exact .frz (e _ _ q)
  | tup q => exact .tup (e _ _ q)
  | dK q => exact .dK (e _ _ q)
  | dT q => exact .dT (e _ _ q)
  | ins q a b c d f => exact .ins (e _ _ q) a b c d f
theorem Rv.mono {K : PySem.W.Frag} {G G' : Hp} (e : Ex G G') {x : SV} {v : V} (h : Rv K G x v) : Rv K G' x v := by
  cases x with
  | d p => exact Dv.mono e p v h
  | m a => exact h
  | o C fs =>
    obtain ⟨a, dx, vs, h1, h2, h3⟩ := h
    exact ⟨a, dx, vs, h1, e _ _ h2, Paired.imp (fun p q z => ⟨z.1, Dv.mono e _ _ z.2⟩) h3⟩
  | t T => exact TyOf.mono e h
  | pr r => exact r.mono _ _ _ e h
def MuOk (μ : Mu) (H : Hp) : Prop := ∀ a ds, μ a = some ds → ∃ xs, H a = some (.lst xs) ∧ DvAll (hid H μ) xs ds
theorem MuOk.fresh {μ : Mu} {H : Hp} (m : MuOk μ H) {p : Addr} (h : H p = none) : μ p = none := by
  cases e : μ p with
  | none => rfl
  | some ds =>
    obtain ⟨xs, h1, _⟩ := m p ds e
    rw [h] at h1; cases h1
/-- a new object -/
theorem ex_new {μ : Mu} {H : Hp} {p : Addr} {o : HO} (h : H p = none) : Ex (hid H μ) (hid (upd H p o) μ) := fun b u e => by
  have hm := hid_mu e
  have e' := hid_le _ _ e
  rw [hid_of hm, upd_ne (ne_of_none e' h)]
  exact e'
theorem hid_new {μ : Mu} {H : Hp} (m : MuOk μ H) {p : Addr} {o : HO} (h : H p = none) : hid (upd H p o) μ p = some o := by
  rw [hid_of (m.fresh h), upd_same]
theorem MuOk.new {μ : Mu} {H : Hp} (m : MuOk μ H) {p : Addr} {o : HO} (h : H p = none) : MuOk μ (upd H p o) := fun a ds e => by
  obtain ⟨xs, h1, h2⟩ := m a ds e
  exact ⟨xs, by rw [upd_ne (ne_of_none h1 h)]; exact h1, DvAll.mono (ex_new h) _ _ h2⟩
/-- the lists with a's put anew -/
def put (μ : Mu) (a : Addr) (ds : List PyData) : Mu := fun b => if b = a then some ds else μ b
theorem put_same {μ : Mu} {a : Addr} {ds : List PyData} : put μ a ds a = some ds := if_pos rfl
theorem put_ne {μ : Mu} {a b : Addr} {ds : List PyData} (h : b ≠ a) : put μ a ds b = μ b := if_neg h
theorem put_put {μ : Mu} {a : Addr} {ds es : List PyData} : put (put μ a ds) a es = put μ a es := by
  funext b; unfold put; split <;> rfl
theorem hid_put {μ : Mu} {H : Hp} {a : Addr} {ds : List PyData} {xs : List V} (h : μ a ≠ none ∨ H a = none) : hid (upd H a (.lst xs)) (put μ a ds) = hid H μ := by
  funext b
  unfold hid put
  by_cases e : b = a
  · subst e
    rw [if_pos rfl]
    rcases h with h | h
    · cases q : μ b with
      | none => exact absurd q h
      | some _ => rfl
    · cases q : μ b with
      | none => simp [h]
      | some _ => rfl
  · rw [if_neg e, upd_ne e]
theorem MuOk.put {μ : Mu} {H : Hp} (m : MuOk μ H) {a : Addr} {ds : List PyData} {xs : List V} (h : μ a ≠ none ∨ H a = none) (r : DvAll (hid H μ) xs ds) : MuOk (T12.put μ a ds) (upd H a (.lst xs)) := fun b es e => by
  rw [hid_put h]
  by_cases q : b = a
  · subst q
    rw [put_same] at e
    cases e
    exact ⟨xs, upd_same, r⟩
  · rw [put_ne q] at e
    rw [upd_ne q]
    exact m b es e
/-- a list is done with: it is data from now on -/
def era (μ : Mu) (a : Addr) : Mu := fun b => if b = a then none else μ b
theorem era_ne {μ : Mu} {a b : Addr} (h : b ≠ a) : era μ a b = μ b := if_neg h
theorem ex_era {μ : Mu} {H : Hp} {a : Addr} : Ex (hid H μ) (hid H (era μ a)) := fun b u e => by
  have hm := hid_mu e
  have e' := hid_le _ _ e
  rw [hid_of (by unfold era; split <;> first | rfl | exact hm)]
  exact e'
theorem MuOk.era {μ : Mu} {H : Hp} (m : MuOk μ H) {a : Addr} : MuOk (era μ a) H := fun b ds e => by
  have e' : μ b = some ds := by
    unfold T12.era at e
    split at e
    · cases e
    · exact e
  obtain ⟨xs, h1, h2⟩ := m b ds e'
  exact ⟨xs, h1, DvAll.mono ex_era _ _ h2⟩
theorem dv_era {μ : Mu} {H : Hp} (m : MuOk μ H) {a : Addr} {ds : List PyData} (h : μ a = some ds) : Dv (hid H (era μ a)) (.ref a) (.list ds) := by
  obtain ⟨xs, h1, h2⟩ := m a ds h
  refine .lst (.inl ?_) (DvAll.mono ex_era _ _ h2)
  rw [hid_of (if_pos rfl)]
  exact h1
theorem era_put {μ : Mu} {a : Addr} {ds : List PyData} (h : μ a = none) : era (put μ a ds) a = μ := by
  funext b; unfold era put
  by_cases e : b = a
  · subst e; rw [if_pos rfl, h]
  · rw [if_neg e, if_neg e]

structure Rep (K : PySem.W.Frag) (ρ : List (Option SV)) (μ : Mu) (σ : L2.St) (H : Hp) : Prop where
  sl : ∀ (i : Nat) (x : SV), ρ[i]? = some (some x) → ∃ v, σ[i]? = some (some v) ∧ Rv K (hid H μ) x v
  mu : MuOk μ H
  len : ρ.length = σ.length
theorem Rep.step {K : PySem.W.Frag} {ρ : List (Option SV)} {μ μ' : Mu} {σ : L2.St} {H H' : Hp} (r : Rep K ρ μ σ H) (e : Ex (hid H μ) (hid H' μ')) (m : MuOk μ' H') : Rep K ρ μ' σ H' :=
  ⟨fun i x h => let ⟨v, h1, h2⟩ := r.sl i x h; ⟨v, h1, h2.mono e⟩, m, r.len⟩
theorem Rep.set {K : PySem.W.Frag} {ρ : List (Option SV)} {μ : Mu} {σ : L2.St} {H : Hp} (r : Rep K ρ μ σ H) {i : Nat} {x : SV} {v : V} (h : Rv K (hid H μ) x v) : Rep K (ρ.set i (some x)) μ (σ.set i (some v)) H := by
  refine ⟨fun j y e => ?_, r.mu, by rw [List.length_set, List.length_set]; exact r.len⟩
  by_cases q : i = j
  · subst q
    have hi : i < ρ.length := by
      have z := (List.getElem?_eq_some_iff.mp e).1
      rw [List.length_set] at z
      exact z
    rw [List.getElem?_set_self hi] at e
    cases e
    exact ⟨v, by rw [List.getElem?_set_self (by rw [← r.len]; exact hi)], h⟩
  · rw [List.getElem?_set_ne q] at e
    obtain ⟨u, h1, h2⟩ := r.sl j y e
    exact ⟨u, by rw [List.getElem?_set_ne q]; exact h1, h2⟩
/-- slots may be forgotten -/
theorem Rep.unset {K : PySem.W.Frag} {ρ : List (Option SV)} {μ : Mu} {σ : L2.St} {H : Hp} (r : Rep K ρ μ σ H) {i : Nat} : Rep K (ρ.set i none) μ (σ.set i none) H := by
  refine ⟨fun j y e => ?_, r.mu, by rw [List.length_set, List.length_set]; exact r.len⟩
  by_cases q : i = j
  · subst q
    have hi : i < ρ.length := by
      have z := (List.getElem?_eq_some_iff.mp e).1
      rw [List.length_set] at z
      exact z
    rw [List.getElem?_set_self hi] at e
    cases e
  · rw [List.getElem?_set_ne q] at e
    obtain ⟨u, h1, h2⟩ := r.sl j y e
    exact ⟨u, by rw [List.getElem?_set_ne q]; exact h1, h2⟩

/-! ### the readings that say: whatever the model does -/
section
variable {X : Cx}
def cE (X : Cx) (e : Expr) : TE := fun σ H Q => ∀ pins s, Inv X pins σ H s → wpAny (model X.prog X.w) X.A (eval e X.env) (EP X pins σ Q) X.xe s
def cT (X : Cx) (e : Expr) : TT := fun σ H Q => ∀ pins s, Inv X pins σ H s → wpAny (model X.prog X.w) X.A (isTrue e X.env (eval e X.env)) (TP X pins σ Q) X.xe s
def cW (X : Cx) (e : Expr) : TT := fun σ H Q => ∀ (whole : Sem Value) pins s, Inv X pins σ H s → wpAny (model X.prog X.w) X.A (isTrue e X.env whole) (TP X pins σ Q) X.xe s
def cA (X : Cx) (es : List Expr) : TA := fun σ H Q => ∀ (pos : Pos) pins s, Inv X pins σ H s → wpAny (model X.prog X.w) X.A (spliced (backTo pos (starEach es X.env))) (AP X pins σ Q) X.xe s
def cS (X : Cx) (st : Stmt) : TS := fun D σ H => ∀ pins s, Inv X pins σ H s → wpAny (model X.prog X.w) X.A (exec st X.env) (SP X pins D) X.xe s
def cSs (X : Cx) (st : List Stmt) : TS := fun D σ H => ∀ pins s, Inv X pins σ H s → wpAny (model X.prog X.w) X.A (execs st X.env) (SP X pins D) X.xe s
def cG (X : Cx) (tg : Expr) : TG := fun v σ H Q => ∀ pins s u, Inv X pins σ H s → RelV v u → wpAny (model X.prog X.w) X.A (assign tg X.env u) (fun _ s' => ∃ σ' H', Inv X pins σ' H' s' ∧ Q σ' H') X.xe s
def cGs (X : Cx) (ts : List Expr) : TGs := fun vs σ H Q => ∀ pins s us, Inv X pins σ H s → Vals vs us →
  wpAny (model X.prog X.w) X.A (assignInOrder ((assignEach ts X.env).map (·.2)) us) (fun _ s' => ∃ σ' H', Inv X pins σ' H' s' ∧ Q σ' H') X.xe s
def cI (X : Cx) (tg iter : Expr) : TI := fun σ H R => ∀ pins s, Inv X pins σ H s → wpAny (model X.prog X.w) X.A (eval iter X.env) (fun v s1 => wpAny (model X.prog X.w) X.A (pyIter v) (PIE X pins σ tg R) X.xe s1) X.xe s
theorem pe_k (e : Expr) : PE X e (cE X e) := ⟨fun pins s σ H Q I h => h pins s I⟩
theorem pt_k (e : Expr) : PT X e (cT X e) := ⟨fun pins s σ H Q I h => h pins s I⟩
theorem pw_k (e : Expr) : PW X e (cW X e) := ⟨fun wh pins s σ H Q I h => h wh pins s I⟩
theorem pa_k (es : List Expr) : PA X es (cA X es) := ⟨fun pos pins s σ H Q I h => h pos pins s I⟩
theorem ps_k (st : Stmt) : PS X st (cS X st) := ⟨fun pins s σ H D I h => h pins s I⟩
theorem pss_k (st : List Stmt) : PSs X st (cSs X st) := ⟨fun pins s σ H D I h => h pins s I⟩
theorem pg_k (tg : Expr) : PG X tg (cG X tg) := ⟨fun pins s σ H v u Q I r h => h pins s u I r⟩
theorem pgs_k (ts : List Expr) : PGs X ts (cGs X ts) := ⟨fun pins s σ H vs us Q I r h => h pins s us I r⟩
theorem pi_k (tg iter : Expr) : PI X tg iter (cI X tg iter) := ⟨fun pins s σ H R I h => h pins s I⟩
theorem cE_of {e : Expr} {t : TE} {σ : L2.St} {H : Hp} {Q : VK} (h : PE X e t) (q : t σ H Q) : cE X e σ H Q := fun pins s I => h.run pins s σ H Q I q
theorem cT_of {e : Expr} {t : TT} {σ : L2.St} {H : Hp} {Q : Bool → Hp → Prop} (h : PT X e t) (q : t σ H Q) : cT X e σ H Q := fun pins s I => h.run pins s σ H Q I q
theorem cW_of {e : Expr} {t : TT} {σ : L2.St} {H : Hp} {Q : Bool → Hp → Prop} (h : PW X e t) (q : t σ H Q) : cW X e σ H Q := fun wh pins s I => h.run wh pins s σ H Q I q
theorem cA_of {es : List Expr} {t : TA} {σ : L2.St} {H : Hp} {Q : List V → Hp → Prop} (h : PA X es t) (q : t σ H Q) : cA X es σ H Q := fun pos pins s I => h.run pos pins s σ H Q I q
theorem cS_of {st : Stmt} {t : TS} {σ : L2.St} {H : Hp} {D : Ends} (h : PS X st t) (q : t D σ H) : cS X st D σ H := fun pins s I => h.run pins s σ H D I q
theorem cSs_of {st : List Stmt} {t : TS} {σ : L2.St} {H : Hp} {D : Ends} (h : PSs X st t) (q : t D σ H) : cSs X st D σ H := fun pins s I => h.run pins s σ H D I q
theorem cG_of {tg : Expr} {t : TG} {v : V} {σ : L2.St} {H : Hp} {Q : L2.St → Hp → Prop} (h : PG X tg t) (q : t v σ H Q) : cG X tg v σ H Q := fun pins s u I r => h.run pins s σ H v u Q I r q
theorem cGs_of {ts : List Expr} {t : TGs} {vs : List V} {σ : L2.St} {H : Hp} {Q : L2.St → Hp → Prop} (h : PGs X ts t) (q : t vs σ H Q) : cGs X ts vs σ H Q := fun pins s us I r => h.run pins s σ H vs us Q I r q
theorem cI_of {tg iter : Expr} {t : TI} {σ : L2.St} {H : Hp} {R : It → Hp → Prop} (h : PI X tg iter t) (q : t σ H R) : cI X tg iter σ H R := fun pins s I => h.run pins s σ H R I q
end

/-! ### the readings over data -/
/-- what is wanted of a value -/
def PK (K : PySem.W.Frag) (Q : SV → Mu → Prop) (H : Hp) (μ : Mu) (Qc : VK) : Prop :=
  ∀ x μ' v H', Q x μ' → Ex (hid H μ) (hid H' μ') → MuOk μ' H' → Rv K (hid H' μ') x v → Qc v H'
def PB (Q : Bool → Mu → Prop) (H : Hp) (μ : Mu) (Qc : Bool → Hp → Prop) : Prop :=
  ∀ b μ' H', Q b μ' → Ex (hid H μ) (hid H' μ') → MuOk μ' H' → Qc b H'
abbrev RvAll (K : PySem.W.Frag) (G : Hp) : List SV → List V → Prop := Paired (Rv K G)
theorem RvAll.mono {K : PySem.W.Frag} {G G' : Hp} (e : Ex G G') {xs : List SV} {vs : List V} (h : RvAll K G xs vs) : RvAll K G' xs vs := Paired.imp (fun _ _ z => z.mono e) h
def PL (K : PySem.W.Frag) (Q : List SV → Mu → Prop) (H : Hp) (μ : Mu) (Qc : List V → Hp → Prop) : Prop :=
  ∀ xs μ' vs H', Q xs μ' → Ex (hid H μ) (hid H' μ') → MuOk μ' H' → RvAll K (hid H' μ') xs vs → Qc vs H'
abbrev Sl := List (Option SV)
structure DEnds where
  nx : Sl → Mu → Prop
  rt : SV → Mu → Prop
  bk : Sl → Mu → Prop := fun _ _ => False
  ct : Sl → Mu → Prop := fun _ _ => False
def PN (K : PySem.W.Frag) (Q : Sl → Mu → Prop) (H : Hp) (μ : Mu) (Qc : L2.St → Hp → Prop) : Prop :=
  ∀ ρ' μ' σ' H', Q ρ' μ' → Ex (hid H μ) (hid H' μ') → Rep K ρ' μ' σ' H' → Qc σ' H'
structure SK (K : PySem.W.Frag) (Φ : DEnds) (H : Hp) (μ : Mu) (D : Ends) : Prop where
  nx : PN K Φ.nx H μ D.nx
  rt : PK K Φ.rt H μ D.rt
  bk : PN K Φ.bk H μ D.bk
  ct : PN K Φ.ct H μ D.ct
theorem PK.from {K : PySem.W.Frag} {Q : SV → Mu → Prop} {H H1 : Hp} {μ μ1 : Mu} {Qc : VK} (e : Ex (hid H μ) (hid H1 μ1)) (h : PK K Q H μ Qc) : PK K Q H1 μ1 Qc := fun x μ' v H' q e' => h x μ' v H' q (e.trans e')
theorem PB.from {Q : Bool → Mu → Prop} {H H1 : Hp} {μ μ1 : Mu} {Qc : Bool → Hp → Prop} (e : Ex (hid H μ) (hid H1 μ1)) (h : PB Q H μ Qc) : PB Q H1 μ1 Qc := fun x μ' H' q e' => h x μ' H' q (e.trans e')
theorem PN.from {K : PySem.W.Frag} {Q : Sl → Mu → Prop} {H H1 : Hp} {μ μ1 : Mu} {Qc : L2.St → Hp → Prop} (e : Ex (hid H μ) (hid H1 μ1)) (h : PN K Q H μ Qc) : PN K Q H1 μ1 Qc := fun ρ' μ' σ' H' q e' => h ρ' μ' σ' H' q (e.trans e')
theorem SK.from {K : PySem.W.Frag} {Φ : DEnds} {H H1 : Hp} {μ μ1 : Mu} {D : Ends} (e : Ex (hid H μ) (hid H1 μ1)) (h : SK K Φ H μ D) : SK K Φ H1 μ1 D := ⟨h.nx.from e, h.rt.from e, h.bk.from e, h.ct.from e⟩

def DE (X : Cx) (e : Expr) (ρ : Sl) (μ : Mu) (Q : SV → Mu → Prop) : Prop := ∀ σ H, Rep X.K ρ μ σ H → ∀ Qc, PK X.K Q H μ Qc → cE X e σ H Qc
def DT (X : Cx) (e : Expr) (ρ : Sl) (μ : Mu) (Q : Bool → Mu → Prop) : Prop := ∀ σ H, Rep X.K ρ μ σ H → ∀ Qc, PB Q H μ Qc → cT X e σ H Qc
def DW (X : Cx) (e : Expr) (ρ : Sl) (μ : Mu) (Q : Bool → Mu → Prop) : Prop := ∀ σ H, Rep X.K ρ μ σ H → ∀ Qc, PB Q H μ Qc → cW X e σ H Qc
def DA (X : Cx) (es : List Expr) (ρ : Sl) (μ : Mu) (Q : List SV → Mu → Prop) : Prop := ∀ σ H, Rep X.K ρ μ σ H → ∀ Qc, PL X.K Q H μ Qc → cA X es σ H Qc
def DS (X : Cx) (st : Stmt) (ρ : Sl) (μ : Mu) (Φ : DEnds) : Prop := ∀ σ H, Rep X.K ρ μ σ H → ∀ D, SK X.K Φ H μ D → cS X st D σ H
def DSs (X : Cx) (st : List Stmt) (ρ : Sl) (μ : Mu) (Φ : DEnds) : Prop := ∀ σ H, Rep X.K ρ μ σ H → ∀ D, SK X.K Φ H μ D → cSs X st D σ H
def DG (X : Cx) (tg : Expr) (x : SV) (ρ : Sl) (μ : Mu) (Q : Sl → Mu → Prop) : Prop := ∀ σ H v, Rep X.K ρ μ σ H → Rv X.K (hid H μ) x v → ∀ Qc, PN X.K Q H μ Qc → cG X tg v σ H Qc
def DGs (X : Cx) (ts : List Expr) (xs : List PyData) (ρ : Sl) (μ : Mu) (Q : Sl → Mu → Prop) : Prop := ∀ σ H vs, Rep X.K ρ μ σ H → DvAll (hid H μ) vs xs → ∀ Qc, PN X.K Q H μ Qc → cGs X ts vs σ H Qc

section
variable {X : Cx} {ρ : Sl} {μ : Mu} {Q : SV → Mu → Prop} {QB : Bool → Mu → Prop} {QL : List SV → Mu → Prop} {Φ : DEnds} {e a b c : Expr} {es rest : List Expr} {st : Stmt} {sts : List Stmt} {pos p p' : Pos}
/-- weaken -/
theorem DE.imp {Q' : SV → Mu → Prop} (h : DE X e ρ μ Q) (k : ∀ x μ', Q x μ' → Q' x μ') : DE X e ρ μ Q' := fun σ H R Qc q => h σ H R Qc fun x μ' v H' z => q x μ' v H' (k x μ' z)
theorem DSs.imp {Ψ : DEnds} (h : DSs X sts ρ μ Φ) (k1 : ∀ r m, Φ.nx r m → Ψ.nx r m) (k2 : ∀ x m, Φ.rt x m → Ψ.rt x m) (k3 : ∀ r m, Φ.bk r m → Ψ.bk r m) (k4 : ∀ r m, Φ.ct r m → Ψ.ct r m) : DSs X sts ρ μ Ψ := fun σ H R D q =>
  h σ H R D ⟨fun r m s H' z => q.nx r m s H' (k1 r m z), fun x m v H' z => q.rt x m v H' (k2 x m z), fun r m s H' z => q.bk r m s H' (k3 r m z), fun r m s H' z => q.ct r m s H' (k4 r m z)⟩
/-- a list that was changed till now is handed on as data -/
theorem de_freeze (h : DE X e ρ μ fun x μ' => ∃ a ds, x = .m a ∧ μ' a = some ds ∧ Q (.d (.list ds)) (era μ' a)) : DE X e ρ μ Q := fun σ H R Qc q =>
  h σ H R Qc fun x μ' v H' ⟨a, ds, ex, hm, hq⟩ e1 m1 r1 => by
    subst ex
    cases (show v = .ref a from r1)
    exact q _ _ _ H' hq (e1.trans ex_era) m1.era (dv_era m1 hm)

/-! names, constants -/
theorem de_var {i : Nat} {x : Str} {y : SV} (h : ρ[i]? = some (some y)) (q : Q y μ) (hN : X.N[i]? = some x := by rfl) (hv : Vis X.env.scope x := by first | exact Or.inl rfl | exact Or.inr (Or.inl rfl) | exact Or.inr (Or.inr rfl))
    (hd : (x == ("__debug__" : Str)) = false := by decide) (hcd : (x == ("__classdict__" : Str)) = false := by decide) : DE X (.Name x pos) ρ μ Q := fun σ H R Qc k => by
  obtain ⟨v, h1, h2⟩ := R.sl i y h
  exact cE_of (pe_var hN hv hd hcd) ⟨v, h1, k y μ v H q (Ex.refl _) R.mu h2⟩
theorem de_const {t : V} {d : PyData} (h : PE X e (tC t)) (r : ∀ G, Dv G t d) (q : Q (.d d) μ) : DE X e ρ μ Q := fun σ H R Qc k => cE_of h (k _ μ t H q (Ex.refl _) R.mu (r _))
theorem de_int {i : Int} {j : Nat} (q : Q (.d (.int i)) μ) : DE X (.Constant (.int i) j pos) ρ μ Q := de_const pe_int (fun _ => .int i) q
theorem de_bl {i : Bool} {j : Nat} (q : Q (.d (.bool i)) μ) : DE X (.Constant (.bool i) j pos) ρ μ Q := de_const pe_bl (fun _ => .bl i) q
theorem de_non {j : Nat} (q : Q (.d .none) μ) : DE X (.Constant .none j pos) ρ μ Q := de_const pe_non (fun _ => .non) q
theorem de_str {x : String} {j : Nat} (q : Q (.d (.str x)) μ) : DE X (.Constant (.str x) j pos) ρ μ Q := de_const pe_str (fun _ => .str _) q
/-- a module's constant int -/
theorem de_gint {x : Str} {i : Int} {tk : Tok} (hm : X.mg x = some (.int i tk)) (q : Q (.d (.int i)) μ) (hg : Gl X x := by rfl) (hd : (x == ("__debug__" : Str)) = false := by decide) : DE X (.Name x pos) ρ μ Q :=
  de_const (pe_glob (v := .int i) hg hm ⟨_, rfl⟩ hd) (fun _ => .int i) q

/-! operators by values -/
def RD (K : PySem.W.Frag) (r : R2) (x y : SV) (μ : Mu) (Q : SV → Mu → Prop) : Prop := ∀ H v u Qc, MuOk μ H → Rv K (hid H μ) x v → Rv K (hid H μ) y u → PK K Q H μ Qc → r v u H Qc
theorem bin_of {ta : TE} {r : R2} {σ : L2.St} {H : Hp} {Qc : VK} (R : Rep X.K ρ μ σ H) (k : PK X.K Q H μ Qc) (h : DE X a ρ μ fun x μ1 => DE X b ρ μ1 fun y μ2 => RD X.K r x y μ2 Q) :
    cE X a σ H fun v H1 => cE X b σ H1 fun u H2 => r v u H2 Qc :=
  h σ H R _ fun x μ1 v H1 hb e1 m1 r1 => hb σ H1 (R.step e1 m1) _ fun y μ2 u H2 hr e2 m2 r2 => hr H2 v u Qc m2 (r1.mono e2) r2 (k.from (e1.trans e2))
theorem de_op {op : Operator} {r : R2} (ho : OpR X (binaryOp op) r) (h : DE X a ρ μ fun x μ1 => DE X b ρ μ1 fun y μ2 => RD X.K r x y μ2 Q) : DE X (.BinOp a op b pos) ρ μ Q := fun σ H R Qc k =>
  cE_of (pe_op ho (pe_k a) (pe_k b)) (bin_of (ta := cE X a) R k h)
/-- a comparison -/
def DC (X : Cx) (op : CmpOp) (a b : Expr) (ρ : Sl) (μ : Mu) (Q : SV → Mu → Prop) : Prop :=
  ∃ r : R2, OpR X (compareOp op) r ∧ behindInMarks op b = false ∧ DE X a ρ μ fun x μ1 => DE X b ρ μ1 fun y μ2 => RD X.K r x y μ2 Q
theorem dc_of {op : CmpOp} {r : R2} (ho : OpR X (compareOp op) r) (hm : behindInMarks op b = false) (h : DE X a ρ μ fun x μ1 => DE X b ρ μ1 fun y μ2 => RD X.K r x y μ2 Q) : DC X op a b ρ μ Q := ⟨r, ho, hm, h⟩
theorem de_cmp {op : CmpOp} (h : DC X op a b ρ μ Q) : DE X (.Compare a [op] [b] pos) ρ μ Q := fun σ H R Qc k => by
  obtain ⟨r, ho, hm, h⟩ := h
  exact cE_of (pe_cmpR ho (pe_k a) (pe_k b) hm) (bin_of (ta := cE X a) R k h)
/-- as a test -/
def isB (QB : Bool → Mu → Prop) : SV → Mu → Prop := fun x m => ∃ k, x = .d (.bool k) ∧ QB k m
theorem pk_isB {K : PySem.W.Frag} {H : Hp} {Qc : Bool → Hp → Prop} (k : PB QB H μ Qc) : PK K (isB QB) H μ (fun x H' => ∃ c, x = .bl c ∧ Qc c H') := fun x μ' v H' ⟨c, e, q⟩ e1 m1 r1 => by
  subst e
  cases r1
  exact ⟨c, rfl, k c μ' H' q e1 m1⟩
theorem dt_cmp {op : CmpOp} (h : DC X op a b ρ μ (isB QB)) : DT X (.Compare a [op] [b] pos) ρ μ QB := fun σ H R Qc k => by
  obtain ⟨r, ho, hm, h⟩ := h
  exact cT_of (pt_cmpR ho (pe_k a) (pe_k b) hm) (bin_of (ta := cE X a) R (pk_isB k) h)
theorem rd_ii {C : Int → Int → Prop} {g : Int → Int → V} {f : Int → Int → PyData} (hg : ∀ i j G, Dv G (g i j) (f i j)) {x y : SV} (h : ∃ i j, x = .d (.int i) ∧ y = .d (.int j) ∧ C i j ∧ Q (.d (f i j)) μ) {K : PySem.W.Frag} : RD K (rI C g) x y μ Q := fun H v u Qc m r1 r2 k => by
  obtain ⟨i, j, rfl, rfl, hc, q⟩ := h
  cases r1; cases r2
  exact ⟨i, j, rfl, rfl, hc, k _ μ _ H q (Ex.refl _) m (hg i j _)⟩
theorem rd_ii0 {g : Int → Int → V} {f : Int → Int → PyData} (hg : ∀ i j G, Dv G (g i j) (f i j)) {x y : SV} (h : ∃ i j, x = .d (.int i) ∧ y = .d (.int j) ∧ Q (.d (f i j)) μ) {K : PySem.W.Frag} : RD K (rI0 g) x y μ Q := fun H v u Qc m r1 r2 k => by
  obtain ⟨i, j, rfl, rfl, q⟩ := h
  cases r1; cases r2
  exact ⟨i, j, rfl, rfl, k _ μ _ H q (Ex.refl _) m (hg i j _)⟩
theorem RD.imp {K : PySem.W.Frag} {r : R2} {x y : SV} (h : RD K r x y μ Q) : RD K r x y μ Q := h
/-- two ints, a condition, the answer -/
abbrev I2 (x y : SV) (C : Int → Int → Prop) (P : Int → Int → Prop) : Prop := ∃ i j, x = .d (.int i) ∧ y = .d (.int j) ∧ C i j ∧ P i j
abbrev J2 (x y : SV) (P : Int → Int → Prop) : Prop := ∃ i j, x = .d (.int i) ∧ y = .d (.int j) ∧ P i j
theorem de_add (h : DE X a ρ μ fun x μ1 => DE X b ρ μ1 fun y μ2 => J2 x y fun i j => Q (.d (.int (i + j))) μ2) : DE X (.BinOp a .Add b pos) ρ μ Q :=
  de_op op_add (h.imp fun _ _ z => z.imp fun _ _ z => rd_ii0 (fun _ _ _ => .int _) z)
theorem de_sub (h : DE X a ρ μ fun x μ1 => DE X b ρ μ1 fun y μ2 => J2 x y fun i j => Q (.d (.int (i - j))) μ2) : DE X (.BinOp a .Sub b pos) ρ μ Q :=
  de_op op_sub (h.imp fun _ _ z => z.imp fun _ _ z => rd_ii0 (fun _ _ _ => .int _) z)
theorem de_mul (h : DE X a ρ μ fun x μ1 => DE X b ρ μ1 fun y μ2 => I2 x y CMulW fun i j => Q (.d (.int (i * j))) μ2) : DE X (.BinOp a .Mult b pos) ρ μ Q :=
  de_op op_mulW (h.imp fun _ _ z => z.imp fun _ _ z => rd_ii (fun _ _ _ => .int _) z)
/-- one factor below 2 ^ 64 -/
theorem de_mulS (h : DE X a ρ μ fun x μ1 => DE X b ρ μ1 fun y μ2 => I2 x y CMul fun i j => Q (.d (.int (i * j))) μ2) : DE X (.BinOp a .Mult b pos) ρ μ Q :=
  de_op op_mul (h.imp fun _ _ z => z.imp fun _ _ z => rd_ii (fun _ _ _ => .int _) z)
theorem de_div (h : DE X a ρ μ fun x μ1 => DE X b ρ μ1 fun y μ2 => I2 x y CDivW fun i j => Q (.d (.int (i / j))) μ2) : DE X (.BinOp a .FloorDiv b pos) ρ μ Q :=
  de_op op_fdivW (h.imp fun _ _ z => z.imp fun _ _ z => rd_ii (fun _ _ _ => .int _) z)
theorem de_mod (h : DE X a ρ μ fun x μ1 => DE X b ρ μ1 fun y μ2 => I2 x y (fun _ j => 0 < j) fun i j => Q (.d (.int (i % j))) μ2) : DE X (.BinOp a .Mod b pos) ρ μ Q :=
  de_op op_mod (h.imp fun _ _ z => z.imp fun _ _ z => rd_ii (fun _ _ _ => .int _) z)
theorem de_pow (h : DE X a ρ μ fun x μ1 => DE X b ρ μ1 fun y μ2 => I2 x y CPow fun i j => Q (.d (.int (i ^ j.toNat))) μ2) : DE X (.BinOp a .Pow b pos) ρ μ Q :=
  de_op op_pow (h.imp fun _ _ z => z.imp fun _ _ z => rd_ii (fun _ _ _ => .int _) z)
theorem de_neg (h : DE X a ρ μ fun x μ1 => ∃ i, x = .d (.int i) ∧ Q (.d (.int (-i))) μ1) : DE X (.UnaryOp .USub a pos) ρ μ Q := fun σ H R Qc k =>
  cE_of (pe_un un_neg (pe_k a)) (h σ H R _ fun x μ1 v H1 ⟨i, e, q⟩ e1 m1 r1 => by
    subst e
    cases r1
    exact ⟨i, rfl, k _ _ _ _ q e1 m1 (.int _)⟩)
theorem dc_lt (h : DE X a ρ μ fun x μ1 => DE X b ρ μ1 fun y μ2 => J2 x y fun i j => Q (.d (.bool (decide (i < j)))) μ2) : DC X .Lt a b ρ μ Q :=
  dc_of op_lt (nomark _) (h.imp fun _ _ z => z.imp fun _ _ z => rd_ii0 (fun _ _ _ => .bl _) z)
theorem dc_le (h : DE X a ρ μ fun x μ1 => DE X b ρ μ1 fun y μ2 => J2 x y fun i j => Q (.d (.bool (decide (i ≤ j)))) μ2) : DC X .LtE a b ρ μ Q :=
  dc_of op_le (nomark _) (h.imp fun _ _ z => z.imp fun _ _ z => rd_ii0 (fun _ _ _ => .bl _) z)
theorem dc_gt (h : DE X a ρ μ fun x μ1 => DE X b ρ μ1 fun y μ2 => J2 x y fun i j => Q (.d (.bool (decide (j < i)))) μ2) : DC X .Gt a b ρ μ Q :=
  dc_of op_gt (nomark _) (h.imp fun _ _ z => z.imp fun _ _ z => rd_ii0 (fun _ _ _ => .bl _) z)
theorem dc_ge (h : DE X a ρ μ fun x μ1 => DE X b ρ μ1 fun y μ2 => J2 x y fun i j => Q (.d (.bool (decide (j ≤ i)))) μ2) : DC X .GtE a b ρ μ Q :=
  dc_of op_ge (nomark _) (h.imp fun _ _ z => z.imp fun _ _ z => rd_ii0 (fun _ _ _ => .bl _) z)
/-- two ints (or other plain things of one kind) compared -/
theorem dc_eqI (h : DE X a ρ μ fun x μ1 => DE X b ρ μ1 fun y μ2 => J2 x y fun i j => Q (.d (.bool (decide (i = j)))) μ2) : DC X .Eq a b ρ μ Q :=
  dc_of op_eq (nomark _) (h.imp fun _ _ z => z.imp fun _ _ z H v u Qc m r1 r2 k => by
    obtain ⟨i, j, rfl, rfl, q⟩ := z
    cases r1; cases r2
    refine ⟨rfl, ?_⟩
    rw [dec_int, Bool.beq_eq_decide_eq]
    exact k _ _ _ H q (Ex.refl _) m (.bl _))
theorem dc_neI (h : DE X a ρ μ fun x μ1 => DE X b ρ μ1 fun y μ2 => J2 x y fun i j => Q (.d (.bool (!decide (i = j)))) μ2) : DC X .NotEq a b ρ μ Q :=
  dc_of op_ne (nomark _) (h.imp fun _ _ z => z.imp fun _ _ z H v u Qc m r1 r2 k => by
    obtain ⟨i, j, rfl, rfl, q⟩ := z
    cases r1; cases r2
    refine ⟨rfl, ?_⟩
    rw [dec_int, Bool.beq_eq_decide_eq]
    exact k _ _ _ H q (Ex.refl _) m (.bl _))
/-- deep == -/
theorem dc_eqD {k : Nat} (hr : Room k X.A) (h : DE X a ρ μ fun x μ1 => DE X b ρ μ1 fun y μ2 => ∃ d f, x = .d d ∧ y = .d f ∧ SeqAt.shaped d = true ∧ SeqAt.shaped f = true ∧ Q (.d (.bool (PyData.eqv d f))) μ2) : DC X .Eq a b ρ μ Q :=
  dc_of (op_eqD hr.units) (nomark _) (h.imp fun _ _ z => z.imp fun _ _ z H v u Qc m r1 r2 k => by
    obtain ⟨d, f, rfl, rfl, s1, s2, q⟩ := z
    exact ⟨d, f, Dv.dp hid_le d v r1, Dv.dp hid_le f u r2, s1, s2, k _ _ _ H q (Ex.refl _) m (.bl _)⟩)
theorem dc_neD {k : Nat} (hr : Room k X.A) (h : DE X a ρ μ fun x μ1 => DE X b ρ μ1 fun y μ2 => ∃ d f, x = .d d ∧ y = .d f ∧ SeqAt.shaped d = true ∧ SeqAt.shaped f = true ∧ Q (.d (.bool (!PyData.eqv d f))) μ2) : DC X .NotEq a b ρ μ Q :=
  dc_of (op_neD hr.units) (nomark _) (h.imp fun _ _ z => z.imp fun _ _ z H v u Qc m r1 r2 k => by
    obtain ⟨d, f, rfl, rfl, s1, s2, q⟩ := z
    exact ⟨d, f, Dv.dp hid_le d v r1, Dv.dp hid_le f u r2, s1, s2, k _ _ _ H q (Ex.refl _) m (.bl _)⟩)
/-- is None -/
def isNon : SV → Option Bool
  | .d .none => some true
  | .d _ => some false
  | .m _ => some false
  | .o _ _ => some false
  | .t _ => none
  | .pr _ => none
theorem rv_non {K : PySem.W.Frag} {G : Hp} {x : SV} {v : V} {k : Bool} (r : Rv K G x v) (h : isNon x = some k) : decide (v = .non) = k := by
  cases x with
  | d p =>
    have r' : Dv G v p := r
    cases r' <;> cases h <;> first | rfl | exact decide_eq_false (fun q => nomatch q) | exact decide_eq_true rfl
  | m a => cases (show v = .ref a from r); cases h; exact decide_eq_false (fun q => nomatch q)
  | o C fs =>
    obtain ⟨a, _, _, e, _⟩ := r
    subst e
    cases h; exact decide_eq_false (fun q => nomatch q)
  | t T => cases h
  | pr _ => cases h
theorem dc_isN (h : DE X a ρ μ fun x μ1 => ∃ k, isNon x = some k ∧ Q (.d (.bool k)) μ1) {j : Nat} : DC X .Is a (.Constant .none j p) ρ μ Q :=
  dc_of op_isN rfl (h.imp fun x μ1 ⟨c, hc, q⟩ => de_non fun H v u Qc m r1 r2 k => by
    cases r2
    refine ⟨rfl, ?_⟩
    rw [rv_non r1 hc]
    exact k _ _ _ _ q (Ex.refl _) m (.bl _))
end
end T12
end
section
set_option Elab.async false
set_option linter.all false
set_option maxRecDepth 100000
set_option maxHeartbeats 2000000
namespace T12
open PySem PySem.Spec PyProof.Rows L2
section
variable {X : Cx} {ρ : Sl} {μ : Mu} {Q : SV → Mu → Prop} {QB : Bool → Mu → Prop} {QL : List SV → Mu → Prop} {Φ : DEnds} {e a b c : Expr} {es rest : List Expr} {st : Stmt} {sts : List Stmt} {pos p p' : Pos}
/-! ### tests -/
theorem DT.imp {Q' : Bool → Mu → Prop} (h : DT X e ρ μ QB) (k : ∀ x μ', QB x μ' → Q' x μ') : DT X e ρ μ Q' := fun σ H R Qc q => h σ H R Qc fun x μ' H' z => q x μ' H' (k x μ' z)
theorem dt_val (h : DE X e ρ μ (isB QB)) (he : ∀ whole, isTrue e X.env whole = (do let v ← whole; standAt e.pos; holding [v] (truthy v)) := by intro _; rfl) : DT X e ρ μ QB := fun σ H R Qc k =>
  cT_of (pt_val (pe_k e) he) (h σ H R _ (pk_isB k))
theorem dt_not (h : DT X a ρ μ fun k m => QB (!k) m) : DT X (.UnaryOp .Not a pos) ρ μ QB := fun σ H R Qc k =>
  cT_of (pt_not (pt_k a)) (h σ H R _ fun d μ' H' q e1 m1 => k _ μ' H' q e1 m1)
theorem dt_w (h : DW X e ρ μ QB) : DT X e ρ μ QB := fun σ H R Qc k pins s I => h σ H R Qc k _ pins s I
theorem dw_and1 (h : DT X a ρ μ QB) : DW X (.BoolOp .And [a] pos) ρ μ QB := fun σ H R Qc k => cW_of (pw_and1 (pt_k a)) (h σ H R Qc k)
theorem dw_or1 (h : DT X a ρ μ QB) : DW X (.BoolOp .Or [a] pos) ρ μ QB := fun σ H R Qc k => cW_of (pw_or1 (pt_k a)) (h σ H R Qc k)
theorem dw_and (h : DT X a ρ μ fun k m => if k = true then DW X (.BoolOp .And (b :: rest) pos) ρ m QB else QB false m) : DW X (.BoolOp .And (a :: b :: rest) pos) ρ μ QB := fun σ H R Qc k =>
  cW_of (pw_and (pt_k a) (pw_k _)) (h σ H R _ fun d μ' H' q e1 m1 => by
    cases d with
    | true => rw [if_pos rfl] at q ⊢; exact q σ H' (R.step e1 m1) Qc (k.from e1)
    | false => rw [if_neg Bool.false_ne_true] at q ⊢; exact k false μ' H' q e1 m1)
theorem dw_or (h : DT X a ρ μ fun k m => if k = true then QB true m else DW X (.BoolOp .Or (b :: rest) pos) ρ m QB) : DW X (.BoolOp .Or (a :: b :: rest) pos) ρ μ QB := fun σ H R Qc k =>
  cW_of (pw_or (pt_k a) (pw_k _)) (h σ H R _ fun d μ' H' q e1 m1 => by
    cases d with
    | true => rw [if_pos rfl] at q ⊢; exact k true μ' H' q e1 m1
    | false => rw [if_neg Bool.false_ne_true] at q ⊢; exact q σ H' (R.step e1 m1) Qc (k.from e1))
/-- a <= b <= c as a test -/
theorem dt_chain {op op' : CmpOp} {r r' : R2} {C : Int → Int → Prop} {f f' : Int → Int → Bool} (ho : OpR X (compareOp op) (rI0 fun i j => .bl (f i j))) (ho' : OpR X (compareOp op') (rI0 fun i j => .bl (f' i j)))
    (h : DE X a ρ μ fun x μ1 => DE X b ρ μ1 fun y μ2 => J2 x y fun i j => if f i j = true then DE X c ρ μ2 fun z μ3 => ∃ k, z = .d (.int k) ∧ QB (f' j k) μ3 else QB false μ2)
    (hm : lastMarks [op, op'] [b, c] = false := by with_unfolding_all rfl) : DT X (.Compare a [op, op'] [b, c] pos) ρ μ QB := fun σ H R Qc k =>
  cT_of (pt_chain ho ho' (pe_k a) (pe_k b) (pe_k c) hm) (h σ H R _ fun x μ1 v H1 hb e1 m1 r1 => hb σ H1 (R.step e1 m1) _ fun y μ2 u H2 hr e2 m2 r2 => by
    obtain ⟨i, j, rfl, rfl, q⟩ := hr
    cases r1; cases r2
    refine ⟨i, j, rfl, rfl, _, rfl, ?_⟩
    by_cases hf : f i j = true
    · rw [if_pos hf] at q ⊢
      refine q σ H2 (R.step (e1.trans e2) m2) _ fun z μ3 w' H3 ⟨n, ez, q3⟩ e3 m3 r3 => ?_
      subst ez
      cases r3
      exact ⟨j, n, rfl, rfl, _, rfl, k _ μ3 H3 q3 ((e1.trans e2).trans e3) m3⟩
    · rw [if_neg hf] at q ⊢
      exact ⟨false, rfl, k false μ2 H2 q (e1.trans e2) m2⟩)
/-- as values -/
theorem de_not (h : DE X a ρ μ fun x m => ∃ k, x = .d (.bool k) ∧ Q (.d (.bool (!k))) m) : DE X (.UnaryOp .Not a pos) ρ μ Q := fun σ H R Qc k =>
  cE_of (pe_not (pe_k a)) (h σ H R _ fun x μ1 v H1 ⟨c, e, q⟩ e1 m1 r1 => by
    subst e
    cases r1
    exact ⟨c, rfl, k _ _ _ _ q e1 m1 (.bl _)⟩)
theorem de_one {op : BoolOp} (h : DE X a ρ μ Q) : DE X (.BoolOp op [a] pos) ρ μ Q := fun σ H R Qc k => cE_of (pe_one (pe_k a)) (h σ H R Qc k)
theorem de_and (h : DE X a ρ μ fun x m => ∃ k, x = .d (.bool k) ∧ if k = true then DE X (.BoolOp .And (b :: rest) pos) ρ m Q else Q (.d (.bool false)) m) : DE X (.BoolOp .And (a :: b :: rest) pos) ρ μ Q := fun σ H R Qc k =>
  cE_of (pe_and (pe_k a) (pe_k _)) (h σ H R _ fun x μ1 v H1 ⟨d, e, q⟩ e1 m1 r1 => by
    subst e
    cases r1
    refine ⟨d, rfl, ?_⟩
    cases d with
    | true => rw [if_pos rfl] at q ⊢; exact q σ H1 (R.step e1 m1) Qc (k.from e1)
    | false => rw [if_neg Bool.false_ne_true] at q ⊢; exact k _ μ1 _ H1 q e1 m1 (.bl _))
theorem de_or (h : DE X a ρ μ fun x m => ∃ k, x = .d (.bool k) ∧ if k = true then Q (.d (.bool true)) m else DE X (.BoolOp .Or (b :: rest) pos) ρ m Q) : DE X (.BoolOp .Or (a :: b :: rest) pos) ρ μ Q := fun σ H R Qc k =>
  cE_of (pe_or (pe_k a) (pe_k _)) (h σ H R _ fun x μ1 v H1 ⟨d, e, q⟩ e1 m1 r1 => by
    subst e
    cases r1
    refine ⟨d, rfl, ?_⟩
    cases d with
    | true => rw [if_pos rfl] at q ⊢; exact k _ μ1 _ H1 q e1 m1 (.bl _)
    | false => rw [if_neg Bool.false_ne_true] at q ⊢; exact q σ H1 (R.step e1 m1) Qc (k.from e1))
theorem de_if (h : DT X c ρ μ fun k m => if k = true then DE X a ρ m Q else DE X b ρ m Q) : DE X (.IfExp c a b pos) ρ μ Q := fun σ H R Qc k =>
  cE_of (pe_ifExp (pt_k c) (pe_k a) (pe_k b)) (h σ H R _ fun d μ' H' q e1 m1 => by
    cases d with
    | true => rw [if_pos rfl] at q ⊢; exact q σ H' (R.step e1 m1) Qc (k.from e1)
    | false => rw [if_neg Bool.false_ne_true] at q ⊢; exact q σ H' (R.step e1 m1) Qc (k.from e1))

/-! ### argument lists, displays -/
theorem da_nil (q : QL [] μ) : DA X [] ρ μ QL := fun σ H R Qc k => cA_of pa_nil (k [] μ [] H q (Ex.refl _) R.mu .nil)
theorem da_cons (h : DE X e ρ μ fun x m => DA X es ρ m fun xs m' => QL (x :: xs) m') (hs : starEach (e :: es) X.env = (false, eval e X.env) :: starEach es X.env := by rfl) : DA X (e :: es) ρ μ QL := fun σ H R Qc k =>
  cA_of (pa_cons (pe_k e) (pa_k es) hs) (h σ H R _ fun x μ1 v H1 q e1 m1 r1 => q σ H1 (R.step e1 m1) _ fun xs μ2 vs H2 q2 e2 m2 r2 => k _ μ2 _ H2 q2 (e1.trans e2) m2 (.cons (r1.mono e2) r2))
/-- all of them data -/
def datas : List SV → Option (List PyData)
  | [] => some []
  | .d p :: r => (datas r).map (p :: ·)
  | _ => none
theorem rv_datas {K : PySem.W.Frag} {G : Hp} : ∀ {xs : List SV} {vs : List V} {ds : List PyData}, RvAll K G xs vs → datas xs = some ds → DvAll G vs ds
  | [], _, _, .nil, h => by cases h; exact .nil
  | .d p :: r, _, ds, .cons q t, h => by
    cases e : datas r with
    | none => rw [datas, e] at h; cases h
    | some es =>
      rw [datas, e] at h
      cases h
      exact .cons q (rv_datas t e)
  | .m _ :: _, _, _, _, h => by cases h
  | .o _ _ :: _, _, _, _, h => by cases h
  | .t _ :: _, _, _, _, h => by cases h
  | .pr _ :: _, _, _, _, h => by cases h
theorem de_tup {k : Nat} (h : DA X es ρ μ fun xs m => ∃ ds, datas xs = some ds ∧ Nat.ble ds.length 1000 = true ∧ Q (.d (.tuple ds)) m) : DE X (.Tuple es k pos) ρ μ Q := fun σ H R Qc k =>
  cE_of (pe_tup (pa_k es)) (h σ H R _ fun xs μ1 vs H1 ⟨ds, hd, hl, q⟩ e1 m1 r1 => by
    have r := rv_datas r1 hd
    refine ⟨by rw [r.len]; exact Nat.le_of_lt (small1000 (Nat.le_of_ble_eq_true hl)), fun p hp => ?_⟩
    exact k _ μ1 _ _ q (e1.trans (ex_new hp)) (m1.new hp) (.tup (hid_new m1 hp) (DvAll.mono (ex_new hp) _ _ r)))
theorem de_lst (h : DA X es ρ μ fun xs m => ∃ ds, datas xs = some ds ∧ Nat.ble ds.length 1000 = true ∧ Q (.d (.list ds)) m) : DE X (.List es pos) ρ μ Q := fun σ H R Qc k =>
  cE_of (pe_lst (pa_k es)) (h σ H R _ fun xs μ1 vs H1 ⟨ds, hd, hl, q⟩ e1 m1 r1 => by
    have r := rv_datas r1 hd
    refine ⟨by rw [r.len]; exact Nat.le_of_lt (small1000 (Nat.le_of_ble_eq_true hl)), fun p hp => ?_⟩
    exact k _ μ1 _ _ q (e1.trans (ex_new hp)) (m1.new hp) (.lst (.inl (hid_new m1 hp)) (DvAll.mono (ex_new hp) _ _ r)))
/-- a list that will be changed -/
theorem de_lstM (h : DA X es ρ μ fun xs m => ∃ ds, datas xs = some ds ∧ Nat.ble ds.length 1000 = true ∧ ∀ p, m p = none → Q (.m p) (put m p ds)) : DE X (.List es pos) ρ μ Q := fun σ H R Qc k =>
  cE_of (pe_lst (pa_k es)) (h σ H R _ fun xs μ1 vs H1 ⟨ds, hd, hl, q⟩ e1 m1 r1 => by
    have r := rv_datas r1 hd
    refine ⟨by rw [r.len]; exact Nat.le_of_lt (small1000 (Nat.le_of_ble_eq_true hl)), fun p hp => ?_⟩
    have hp' := hid_put (μ := μ1) (H := H1) (a := p) (ds := ds) (xs := vs) (.inr hp)
    exact k _ _ _ _ (q p (m1.fresh hp)) (by rw [hp']; exact e1) (m1.put (.inr hp) r) rfl)

/-! ### subscripts -/
/-- the items of what is walked or asked by place -/
def items (μ : Mu) : SV → Option (List PyData)
  | .d (.list ds) => some ds
  | .d (.tuple ds) => some ds
  | .m a => μ a
  | _ => none
theorem atI_map {G : Hp} {vs : List V} {ds : List PyData} {i : Int} {d : PyData} (r : DvAll G vs ds) (h : atI ds i = some d) : ∃ v, atI vs i = some v ∧ Dv G v d := by
  unfold atI at h ⊢
  rw [r.len]
  cases e : ixN ds.length i with
  | none => rw [e] at h; cases h
  | some j =>
    rw [e] at h
    obtain ⟨v, h1, h2⟩ := r.get (show ds[j]? = some d from h)
    exact ⟨v, h1, h2⟩
theorem items_v {K : PySem.W.Frag} {μ : Mu} {H : Hp} {x : SV} {v : V} {ds : List PyData} (m : MuOk μ H) (r : Rv K (hid H μ) x v) (h : items μ x = some ds) :
    ∃ (a : Addr) (vs : List V), v = .ref a ∧ DvAll (hid H μ) vs ds ∧ ((SqL K H a vs ∧ ∀ es, x ≠ .d (.tuple es)) ∨ (H a = some (.tup vs) ∧ x = .d (.tuple ds))) := by
  cases x with
  | d p =>
    have r' : Dv (hid H μ) v p := r
    cases r' with
    | lst h1 h2 => cases h; exact ⟨_, _, rfl, h2, .inl ⟨.inl (Ex.rd hid_le h1), fun es z => nomatch z⟩⟩
    | tup h1 h2 => cases h; exact ⟨_, _, rfl, h2, .inr ⟨hid_le _ _ h1, rfl⟩⟩
    | _ => cases h
  | m a =>
    obtain ⟨vs, h1, h2⟩ := m a ds h
    cases (show v = .ref a from r)
    exact ⟨_, _, rfl, h2, .inl ⟨SqL.of h1, fun es z => nomatch z⟩⟩
  | o C fs => cases h
  | t T => cases h
  | pr _ => cases h
theorem de_ix (h : DE X a ρ μ fun x m => DE X b ρ m fun y m' => ∃ ds i d, items m' x = some ds ∧ y = .d (.int i) ∧ atI ds i = some d ∧ Q (.d d) m') (hs : PlainIx b := by intro _ _; rfl) : DE X (.Subscript a b pos) ρ μ Q := fun σ H R Qc k =>
  cE_of (pe_ix ix_seq (pe_k a) (pe_k b) hs) (bin_of (ta := cE X a) (r := rIx X.K) R k (h.imp fun x μ1 z => z.imp fun y μ2 ⟨ds, i, d, hi, hy, hat, q⟩ H v u Qc m r1 r2 k => by
    subst hy
    cases r2
    obtain ⟨l, vs, rfl, hv, hq⟩ := items_v m r1 hi
    obtain ⟨w', h1, h2⟩ := atI_map hv hat
    have fin := k _ μ2 w' H q (Ex.refl _) m h2
    rcases hq with ⟨hq, _⟩ | ⟨hq, _⟩
    · exact .inl ⟨l, vs, i, w', rfl, rfl, hq, h1, fin⟩
    · exact .inr (.inl ⟨l, vs, i, w', rfl, rfl, SqT.of hq, h1, fin⟩)))

/-! ### calls -/
theorem Paired.append {α β : Type} {F : α → β → Prop} : ∀ {l l' : List α} {r r' : List β}, Paired F l r → Paired F l' r' → Paired F (l ++ l') (r ++ r')
  | _, _, _, _, .nil, h => h
  | _, _, _, _, .cons q t, h => .cons q (Paired.append t h)
/-- what a def promises, over data -/
abbrev DSp := List SV → Mu → (SV → Mu → Prop) → Prop
def spD (K : PySem.W.Frag) (n : Nat) (dsp : DSp) : Sp := fun vs H Q _ => ∃ xs μ P, xs.length = n ∧ MuOk μ H ∧ RvAll K (hid H μ) xs vs ∧ dsp xs μ P ∧ PK K P H μ Q
theorem de_call {x : Str} {n k j : Nat} {dsp : DSp} (c : C8.Cal X.prog X.w X.K X.mg X.base k x (spD X.K n dsp) []) (hr : Room j X.A) (hk : k ≤ j) (h : DA X (e :: es) ρ μ fun xs m => xs.length = n ∧ dsp xs m Q) (hg : Gl X x := by rfl)
    (hdb : (x == ("__debug__" : Str)) = false := by decide) (he : starEach (e :: es) X.env = (false, eval e X.env) :: starEach es X.env := by rfl) (hpl : (backTo pos (starEach es X.env)).any (·.1) = false := by rfl) :
    DE X (.Call (.Name x p) (e :: es) [] pos) ρ μ Q := fun σ H R Qc k =>
  cE_of (C8.pe_c c hr hk hg (pa_k (e :: es)) hdb he hpl) (h σ H R _ fun xs μ1 vs H1 ⟨hn, q⟩ e1 m1 r1 => by
    show spD X.K n dsp (vs ++ []) H1 Qc E0
    rw [List.append_nil]
    exact ⟨xs, μ1, Q, hn, m1, r1, q, k.from e1⟩)
/-- .. whose last parameters have defaults -/
theorem de_callD {x : Str} {n k j : Nat} {dsp : DSp} {dvs : List V} {dx : List SV} (c : C8.Cal X.prog X.w X.K X.mg X.base k x (spD X.K n dsp) dvs) (hd : ∀ G, RvAll X.K G dx dvs) (hr : Room j X.A) (hk : k ≤ j) (h : DA X (e :: es) ρ μ fun xs m => (xs ++ dx).length = n ∧ dsp (xs ++ dx) m Q) (hg : Gl X x := by rfl)
    (hdb : (x == ("__debug__" : Str)) = false := by decide) (he : starEach (e :: es) X.env = (false, eval e X.env) :: starEach es X.env := by rfl) (hpl : (backTo pos (starEach es X.env)).any (·.1) = false := by rfl) :
    DE X (.Call (.Name x p) (e :: es) [] pos) ρ μ Q := fun σ H R Qc k =>
  cE_of (C8.pe_c c hr hk hg (pa_k (e :: es)) hdb he hpl) (h σ H R _ fun xs μ1 vs H1 ⟨hn, q⟩ e1 m1 r1 =>
    ⟨xs ++ dx, μ1, Q, hn, m1, Paired.append r1 (hd _), q, k.from e1⟩)
/-- built-in functions and types by values -/
def RL (K : PySem.W.Frag) (r : List V → Hp → VK → Prop) (xs : List SV) (μ : Mu) (Q : SV → Mu → Prop) : Prop := ∀ H vs Qc, MuOk μ H → RvAll K (hid H μ) xs vs → PK K Q H μ Qc → r vs H Qc
theorem de_callB {x : Str} {id : String} {r : List V → Hp → VK → Prop} (hc : CallR X (.builtin id) r) (hm : X.mg x = none) (hv : bootBuiltins x = some (.builtin id)) (h : DA X (e :: es) ρ μ fun xs m => RL X.K r xs m Q) (hg : Gl X x := by rfl)
    (hn : x ≠ "__name__" := by decide) (hdb : (x == ("__debug__" : Str)) = false := by decide) (he : starEach (e :: es) X.env = (false, eval e X.env) :: starEach es X.env := by rfl) (hpl : (backTo pos (starEach es X.env)).any (·.1) = false := by rfl) :
    DE X (.Call (.Name x p) (e :: es) [] pos) ρ μ Q := fun σ H R Qc k =>
  cE_of (pe_callB hc hg hm hv (pa_k (e :: es)) hn hdb he hpl) (h σ H R _ fun xs μ1 vs H1 q e1 m1 r1 => q H1 vs Qc m1 r1 (k.from e1))
theorem de_callTy {x : Str} {T : String} {r : List V → Hp → VK → Prop} (hc : CallR X (.type T) r) (hm : X.mg x = none) (hv : bootBuiltins x = some (.type T)) (h : DA X (e :: es) ρ μ fun xs m => RL X.K r xs m Q) (hg : Gl X x := by rfl)
    (hn : x ≠ "__name__" := by decide) (hdb : (x == ("__debug__" : Str)) = false := by decide) (he : starEach (e :: es) X.env = (false, eval e X.env) :: starEach es X.env := by rfl) (hpl : (backTo pos (starEach es X.env)).any (·.1) = false := by rfl) :
    DE X (.Call (.Name x p) (e :: es) [] pos) ρ μ Q := fun σ H R Qc k =>
  cE_of (pe_callTy hc hg hm hv (pa_k (e :: es)) hn hdb he hpl) (h σ H R _ fun xs μ1 vs H1 q e1 m1 r1 => q H1 vs Qc m1 r1 (k.from e1))
theorem rl_abs {K : PySem.W.Frag} {xs : List SV} (h : ∃ i, xs = [.d (.int i)] ∧ Q (.d (.int (if i < 0 then -i else i))) μ) : RL K (fun xs H Q => ∃ i, xs = [.int i] ∧ Q (.int (if i < 0 then -i else i)) H) xs μ Q := fun H vs Qc m r k => by
  obtain ⟨i, rfl, q⟩ := h
  cases r with
  | cons r1 r2 =>
    cases r2; cases r1
    exact ⟨i, rfl, k _ _ _ _ q (Ex.refl _) m (.int _)⟩
theorem de_abs (hm : X.mg "abs" = none) (h : DE X a ρ μ fun x m => ∃ i, x = .d (.int i) ∧ Q (.d (.int (if i < 0 then -i else i))) m) (hg : Gl X "abs" := by rfl) (he : starEach [a] X.env = (false, eval a X.env) :: starEach [] X.env := by rfl) (hpl : (backTo pos (starEach [] X.env)).any (·.1) = false := by rfl) :
    DE X (.Call (.Name "abs" p) [a] [] pos) ρ μ Q :=
  de_callB call_abs hm (by decide +kernel) (da_cons (h.imp fun x m ⟨i, e, q⟩ => da_nil (rl_abs ⟨i, by rw [e], q⟩)) he) hg (by decide) (by decide) he hpl
/-- int(n), int(flag) -/
def intOf : SV → Option Int
  | .d (.int i) => some i
  | .d (.bool k) => some (if k then 1 else 0)
  | _ => none
theorem de_intc (hm : X.mg "int" = none) (h : DE X a ρ μ fun x m => ∃ i, intOf x = some i ∧ Q (.d (.int i)) m) (hg : Gl X "int" := by rfl) (he : starEach [a] X.env = (false, eval a X.env) :: starEach [] X.env := by rfl) (hpl : (backTo pos (starEach [] X.env)).any (·.1) = false := by rfl) :
    DE X (.Call (.Name "int" p) [a] [] pos) ρ μ Q :=
  de_callTy call_int1 hm (by decide +kernel) (da_cons (h.imp fun x m ⟨i, e, q⟩ => da_nil fun H vs Qc m r k => by
    cases r with
    | cons r1 r2 =>
      cases r2
      have fin := k _ _ (.int i) H q (Ex.refl _) m (.int _)
      cases x with
      | d z =>
        cases z with
        | int j => cases e; cases r1; exact .inl ⟨i, rfl, fin⟩
        | bool j => cases e; cases r1; exact .inr ⟨j, rfl, fin⟩
        | _ => cases e
      | _ => cases e) he) hg (by decide) (by decide) he hpl
theorem de_len (hm : X.mg "len" = none) (h : DE X a ρ μ fun x m => ∃ ds, items m x = some ds ∧ Q (.d (.int (ds.length : Nat))) m) (hg : Gl X "len" := by rfl) (he : starEach [a] X.env = (false, eval a X.env) :: starEach [] X.env := by rfl) (hpl : (backTo pos (starEach [] X.env)).any (·.1) = false := by rfl) :
    DE X (.Call (.Name "len" p) [a] [] pos) ρ μ Q :=
  de_callB call_len hm (by decide +kernel) (da_cons (h.imp fun x m ⟨ds, e, q⟩ => da_nil fun H vs Qc m r k => by
    cases r with
    | cons r1 r2 =>
      cases r2
      obtain ⟨l, vs, rfl, hv, hq⟩ := items_v m r1 e
      refine ⟨_, ds.length, rfl, ?_, k _ _ _ H q (Ex.refl _) m (.int _)⟩
      rcases hq with ⟨hq, _⟩ | ⟨hq, _⟩
      · exact .inl ⟨vs, hq, hv.len.symm⟩
      · exact .inr ⟨vs, SqT.of hq, hv.len.symm⟩) he) hg (by decide) (by decide) he hpl
/-- tuple(x) -/
theorem de_tuple (hm : X.mg "tuple" = none) (h : DE X a ρ μ fun x m => ∃ ds, items m x = some ds ∧ Q (.d (.tuple ds)) m) (hg : Gl X "tuple" := by rfl) (he : starEach [a] X.env = (false, eval a X.env) :: starEach [] X.env := by rfl) (hpl : (backTo pos (starEach [] X.env)).any (·.1) = false := by rfl) :
    DE X (.Call (.Name "tuple" p) [a] [] pos) ρ μ Q :=
  de_callTy call_tuple_of hm (by decide +kernel) (da_cons (h.imp fun x m ⟨ds, e, q⟩ => da_nil fun H vs Qc m r k => by
    cases r with
    | cons r1 r2 =>
      cases r2
      obtain ⟨l, vs, rfl, hv, hq⟩ := items_v m r1 e
      refine ⟨l, vs, rfl, ?_⟩
      rcases hq with ⟨hq, _⟩ | ⟨hq, e'⟩
      · exact .inl ⟨hq, fun t ht => k _ _ _ _ q (ex_new ht) (m.new ht) (.tup (hid_new m ht) (DvAll.mono (ex_new ht) _ _ hv))⟩
      · subst e'
        exact .inr ⟨SqT.of hq, k _ _ _ H q (Ex.refl _) m r1⟩) he) hg (by decide) (by decide) he hpl
theorem de_list (hm : X.mg "list" = none) (h : DE X a ρ μ fun x m => ∃ ds, items m x = some ds ∧ Q (.d (.list ds)) m) (hg : Gl X "list" := by rfl) (he : starEach [a] X.env = (false, eval a X.env) :: starEach [] X.env := by rfl) (hpl : (backTo pos (starEach [] X.env)).any (·.1) = false := by rfl) :
    DE X (.Call (.Name "list" p) [a] [] pos) ρ μ Q :=
  de_callTy call_list_of hm (by decide +kernel) (da_cons (h.imp fun x m ⟨ds, e, q⟩ => da_nil fun H vs Qc m r k => by
    cases r with
    | cons r1 r2 =>
      cases r2
      obtain ⟨l, vs, rfl, hv, hq⟩ := items_v m r1 e
      refine ⟨l, vs, rfl, ?_, fun t ht => k _ _ _ _ q (ex_new ht) (m.new ht) (.lst (.inl (hid_new m ht)) (DvAll.mono (ex_new ht) _ _ hv))⟩
      rcases hq with ⟨hq, _⟩ | ⟨hq, _⟩
      · exact .inl hq
      · exact .inr (SqT.of hq)) he) hg (by decide) (by decide) he hpl
/-- all(..), any(..) of a list of truths -/
theorem vals_bools {G : Hp} : ∀ {vs : List V} {bs : List Bool}, DvAll G vs (bs.map .bool) → vs = bs.map V.bl
  | [], [], _ => rfl
  | _ :: _, b :: bs, .cons h t => by
    cases h
    rw [vals_bools t]; rfl
  | [], _ :: _, h => by cases h
  | _ :: _, [], h => by cases h
theorem de_all (hm : X.mg "all" = none) (h : DE X a ρ μ fun x m => ∃ bs : List Bool, x = .d (.list (bs.map .bool)) ∧ Q (.d (.bool (bs.all id))) m) (hc : X.calm = true := by rfl) (hg : Gl X "all" := by rfl) (he : starEach [a] X.env = (false, eval a X.env) :: starEach [] X.env := by rfl) (hpl : (backTo pos (starEach [] X.env)).any (·.1) = false := by rfl) :
    DE X (.Call (.Name "all" p) [a] [] pos) ρ μ Q :=
  de_callB (cr_all hc) hm (by decide +kernel) (da_cons (h.imp fun x m ⟨bs, e, q⟩ => da_nil fun H vs Qc m r k => by
    subst e
    cases r with
    | cons r1 r2 =>
      cases r2
      obtain ⟨l, vs, rfl, hv, hq⟩ := items_v (ds := bs.map .bool) m r1 rfl
      rcases hq with ⟨hq, _⟩ | ⟨_, z⟩
      · rw [vals_bools hv] at hq
        exact ⟨l, bs, rfl, hq, k _ _ _ H q (Ex.refl _) m (.bl _)⟩
      · cases z) he) hg (by decide) (by decide) he hpl
theorem de_any (hm : X.mg "any" = none) (h : DE X a ρ μ fun x m => ∃ bs : List Bool, x = .d (.list (bs.map .bool)) ∧ Q (.d (.bool (bs.any id))) m) (hc : X.calm = true := by rfl) (hg : Gl X "any" := by rfl) (he : starEach [a] X.env = (false, eval a X.env) :: starEach [] X.env := by rfl) (hpl : (backTo pos (starEach [] X.env)).any (·.1) = false := by rfl) :
    DE X (.Call (.Name "any" p) [a] [] pos) ρ μ Q :=
  de_callB (cr_any hc) hm (by decide +kernel) (da_cons (h.imp fun x m ⟨bs, e, q⟩ => da_nil fun H vs Qc m r k => by
    subst e
    cases r with
    | cons r1 r2 =>
      cases r2
      obtain ⟨l, vs, rfl, hv, hq⟩ := items_v (ds := bs.map .bool) m r1 rfl
      rcases hq with ⟨hq, _⟩ | ⟨_, z⟩
      · rw [vals_bools hv] at hq
        exact ⟨l, bs, rfl, hq, k _ _ _ H q (Ex.refl _) m (.bl _)⟩
      · cases z) he) hg (by decide) (by decide) he hpl
end
end T12
end
section
set_option Elab.async false
set_option linter.all false
set_option maxRecDepth 100000
set_option maxHeartbeats 2000000
namespace T12
open PySem PySem.Spec PyProof.Rows L2
section
variable {X : Cx} {ρ : Sl} {μ : Mu} {Q : SV → Mu → Prop} {QB : Bool → Mu → Prop} {QN : Sl → Mu → Prop} {Φ : DEnds} {e a b c tg : Expr} {es rest : List Expr} {st : Stmt} {sts body : List Stmt} {pos p p' : Pos} {x : SV}
/-! ### targets -/
theorem dg_name {i : Nat} {n : Str} (hN : X.N.Nodup) (q : QN (ρ.set i (some x)) μ) (hi : X.N[i]? = some n := by rfl) (hx : Loc X.env.scope n := by first | exact Or.inl rfl | exact Or.inr rfl)
    (hf : X.fn n = true ∨ X.env.scope.names.lookup n = some .local := by first | exact .inl rfl | exact .inr rfl) : DG X (.Name n pos) x ρ μ QN := fun σ H v R r Qc k =>
  cG_of (pg_name hN hi hx hf) (k _ μ _ H q (Ex.refl _) (R.set r))
theorem dgs_nil (q : QN ρ μ) : DGs X [] [] ρ μ QN := fun σ H vs R r Qc k => by
  cases r
  exact cGs_of pgs_nil ⟨rfl, k ρ μ σ H q (Ex.refl _) R⟩
theorem dgs_cons {d : PyData} {ds : List PyData} (h : DG X e (.d d) ρ μ fun ρ' μ' => DGs X es ds ρ' μ' QN) (hs : (assignEach (e :: es) X.env).map (·.2) = assign e X.env :: (assignEach es X.env).map (·.2) := by rfl) : DGs X (e :: es) (d :: ds) ρ μ QN := fun σ H vs R r Qc k => by
  cases r with
  | @cons v vs _ _ r1 r2 =>
    exact cGs_of (pgs_cons (pg_k e) (pgs_k es) hs) ⟨v, vs, rfl, h σ H v R r1 _ fun ρ' μ' σ' H' q e1 R1 => q σ' H' vs R1 (DvAll.mono e1 _ _ r2) _ (k.from e1)⟩
theorem dg_tup {k n : Nat} (hc : X.calm = true) (h : ∃ ds, x = .d (.tuple ds) ∧ ds.length = n ∧ DGs X es ds ρ μ QN) (hn : (assignEach es X.env).length = n := by rfl) (hst : (assignEach es X.env).findIdx? (·.1) = none := by rfl) : DG X (.Tuple es k pos) x ρ μ QN := fun σ H v R r Qc kk => by
  obtain ⟨ds, rfl, hl, h⟩ := h
  cases r with
  | @tup a xs _ r1 r2 => exact cG_of (pg_tup hc (pgs_k es) hn hst) ⟨a, xs, rfl, SqT.of (hid_le _ _ r1), by rw [r2.len, hl], h σ H xs R r2 Qc kk⟩
/-- o[i] = v, o a list that is being changed -/
theorem dg_item {o i : Expr} (h : DE X o ρ μ fun y m => DE X i ρ m fun z m' => ∃ l ds k j d, y = .m l ∧ z = .d (.int k) ∧ x = .d d ∧ m' l = some ds ∧ ixN ds.length k = some j ∧ QN ρ (put m' l (ds.set j d)))
    (ha : ∀ v, assign (.Subscript o i pos) X.env v = (do
      let ov ← holding [v] (eval o X.env)
      let iv ← holding [v, ov] (eval i X.env)
      standAt pos
      holding [v, ov, iv] (setItem ov iv v)
      release [v, ov, iv] []) := by intro _; rfl) : DG X (.Subscript o i pos) x ρ μ QN := fun σ H v R r Qc k =>
  cG_of (pg_sub (pe_k o) (pe_k i) set_list ha) (h σ H R _ fun y m w1 H1 q1 e1 m1 r1 => q1 σ H1 (R.step e1 m1) _ fun z m' w2 H2 ⟨l, ds, kk, j, d, ey, ez, ex, hm, hj, q⟩ e2 m2 r2 => by
    subst ey ez ex
    cases (show w1 = .ref l from r1)
    cases r2
    obtain ⟨xs, h1, h2⟩ := m2 l ds hm
    have hne : m' l ≠ none ∨ H2 l = none := .inl (by rw [hm]; exact fun z => nomatch z)
    have rv : DvAll (hid H2 m') (xs.set j v) (ds.set j d) := DvAll.set (Dv.mono (e1.trans e2) _ _ r) j h2
    have hp := hid_put (ds := ds.set j d) (xs := xs.set j v) hne
    refine ⟨l, xs, kk, j, rfl, rfl, h1, by rw [h2.len]; exact hj, ?_⟩
    refine k _ _ σ _ q (by rw [hp]; exact e1.trans e2) ?_
    exact R.step (by rw [hp]; exact e1.trans e2) (m2.put hne rv))

/-! ### statements -/
theorem dss_nil (q : Φ.nx ρ μ) : DSs X [] ρ μ Φ := fun σ H R D k => cSs_of pss_nil (k.nx ρ μ σ H q (Ex.refl _) R)
theorem dss_cons (h : DS X st ρ μ { Φ with nx := fun ρ' μ' => DSs X sts ρ' μ' Φ }) : DSs X (st :: sts) ρ μ Φ := fun σ H R D k =>
  cSs_of (pss_cons (ps_k st) (pss_k sts)) (h σ H R _ ⟨fun ρ' μ' σ' H' q e1 R1 => q σ' H' R1 D (k.from e1), k.rt, k.bk, k.ct⟩)
theorem ds_asg (h : DE X e ρ μ fun x m => DG X tg x ρ m Φ.nx) (hs : swapsWithSole [tg] e pos.line X.env = pure false := by rfl) (hw : swappedStores [tg] e X.env = pure none := by rfl) (h1 : (assignEach [tg] X.env).map (·.2) = [assign tg X.env] := by rfl) : DS X (.Assign [tg] e pos) ρ μ Φ := fun σ H R D k =>
  cS_of (ps_asg (pe_k e) (pg_k tg) hs hw h1) (h σ H R _ fun x m v H1 q e1 m1 r1 => q σ H1 v (R.step e1 m1) r1 _ (k.nx.from e1))
theorem ds_set {i : Nat} {n : Str} (hN : X.N.Nodup) (h : DE X e ρ μ fun x m => Φ.nx (ρ.set i (some x)) m) (hi : X.N[i]? = some n := by rfl) (hx : Loc X.env.scope n := by first | exact Or.inl rfl | exact Or.inr rfl) (hs : swapsWith e (some (.Name n p')) pos.line X.env = pure false := by rfl)
    (hf : X.fn n = true ∨ X.env.scope.names.lookup n = some .local := by first | exact .inl rfl | exact .inr rfl) : DS X (.Assign [.Name n p'] e pos) ρ μ Φ := fun σ H R D k =>
  cS_of (ps_set hN hi hx (pe_k e) hs hf) (h σ H R _ fun x m v H1 q e1 m1 r1 => k.nx _ m _ H1 q e1 ((R.step e1 m1).set r1))
/-- a, b = e1, e2 -/
theorem ds_par {i j : Nat} {n n' : Str} {px py pt pt2 : Pos} {kt k2 : Nat} (hN : X.N.Nodup) (h : DE X a ρ μ fun x m => DE X b ρ m fun y m' => Φ.nx ((ρ.set i (some x)).set j (some y)) m') (hi : X.N[i]? = some n := by rfl) (hj : X.N[j]? = some n' := by rfl) (hc : X.calm = true := by rfl) (hij : i ≠ j := by decide)
    (hx : X.env.scope.names.lookup n = some .local := by rfl) (hy : X.env.scope.names.lookup n' = some .local := by rfl)
    (hw : swappedStores [.Tuple [.Name n px, .Name n' py] kt pt] (.Tuple [a, b] k2 pt2) X.env = pure (some [n, n']) := by rfl)
    (hs : swapsWithSole [.Tuple [.Name n px, .Name n' py] kt pt] (.Tuple [a, b] k2 pt2) pos.line X.env = pure false := by rfl)
    (h1 : starEach (a :: [b]) X.env = (false, eval a X.env) :: starEach [b] X.env := by rfl) (h2 : starEach (b :: []) X.env = (false, eval b X.env) :: starEach [] X.env := by rfl) : DS X (.Assign [.Tuple [.Name n px, .Name n' py] kt pt] (.Tuple [a, b] k2 pt2) pos) ρ μ Φ := fun σ H R D k =>
  cS_of (ps_par hc hN hi hj hij hx hy (pa_cons (pe_k a) (pa_cons (pe_k b) pa_nil h2) h1) hw hs) (h σ H R _ fun x m v H1 q e1 m1 r1 => q σ H1 (R.step e1 m1) _ fun y m' u H2 q2 e2 m2 r2 =>
    ⟨v, u, rfl, k.nx _ m' _ H2 q2 (e1.trans e2) (((R.step (e1.trans e2) m2).set (r1.mono e2)).set r2)⟩)
theorem ds_ret (h : DE X e ρ μ Φ.rt) : DS X (.Return (some e) pos) ρ μ Φ := fun σ H R D k => cS_of (ps_ret (pe_k e)) (h σ H R _ k.rt)
theorem ds_retN (h : Φ.rt (.d .none) μ) : DS X (.Return none pos) ρ μ Φ := fun σ H R D k => cS_of ps_retN (k.rt _ μ _ H h (Ex.refl _) R.mu .non)
theorem ds_expr (h : DE X e ρ μ fun _ m => Φ.nx ρ m) (hs : swapsWith e none pos.line X.env = pure false := by rfl) : DS X (.Expr e pos) ρ μ Φ := fun σ H R D k =>
  cS_of (ps_expr (pe_k e) hs) (h σ H R _ fun x m v H1 q e1 m1 r1 => k.nx ρ m σ H1 q e1 (R.step e1 m1))
theorem ds_if {tb eb : List Stmt} (h : DT X c ρ μ fun k m => if k = true then DSs X tb ρ m Φ else DSs X eb ρ m Φ) : DS X (.If c tb eb pos) ρ μ Φ := fun σ H R D k =>
  cS_of (ps_if (pt_k c) (pss_k tb) (pss_k eb)) (h σ H R _ fun d m H1 q e1 m1 => by
    cases d with
    | true => rw [if_pos rfl] at q ⊢; exact q σ H1 (R.step e1 m1) D (k.from e1)
    | false => rw [if_neg Bool.false_ne_true] at q ⊢; exact q σ H1 (R.step e1 m1) D (k.from e1))
theorem ds_pass (q : Φ.nx ρ μ) : DS X (.Pass pos) ρ μ Φ := fun σ H R D k => cS_of ps_pass (k.nx ρ μ σ H q (Ex.refl _) R)
/-- xs.append(e), xs a list that is being changed -/
theorem ds_append {o : Expr} {apos cpos : Pos} (h : DE X o ρ μ fun y m => ∃ l, y = .m l ∧ ∃ es0, m l = some es0 ∧ DE X e ρ m fun x m' => ∃ ds d, x = .d d ∧ m' l = some ds ∧ ds.length < 1000 ∧ Φ.nx ρ (put m' l (ds ++ [d])))
    (hbase : attributeBase o "append" X.env (eval o X.env) = eval o X.env := by rfl) (hs : swapsWith (.Call (.Attribute o "append" apos) [e] [] cpos) none pos.line X.env = pure false := by rfl)
    (he : starEach (e :: []) X.env = (false, eval e X.env) :: starEach [] X.env := by rfl) (hpl : (((((backTo cpos (starEach [e] X.env)).all fun x => !x.fst) && (backToKw cpos (keywordEach [] X.env)).all fun x => x.fst.isSome) && decide (([e].length + ([] : List Keyword).length + if ([] : List Keyword).isEmpty = true then 0 else 1) < 30)) = true) := by rfl) (hline : (apos.endLine == cpos.line) = true := by rfl) (hpl2 : (backTo cpos (starEach [] X.env)).any (·.1) = false := by rfl) : DS X (.Expr (.Call (.Attribute o "append" apos) [e] [] cpos) pos) ρ μ Φ := fun σ H R D k =>
  cS_of (ps_expr (pe_bm PySem.F.plainAttrs_list PySem.F.slot_list_append PySem.F.type_list_append mt_append (pe_k o) (pa_cons (pe_k e) pa_nil he) hbase hpl hline he hpl2) hs)
    (h σ H R _ fun y m w1 H1 ⟨l, ey, es0, hm0, q1⟩ e1 m1 r1 => by
      subst ey
      cases (show w1 = .ref l from r1)
      obtain ⟨xs0, h0, _⟩ := m1 l es0 hm0
      refine ⟨.inl ⟨rfl, _, SqL.of h0⟩, q1 σ H1 (R.step e1 m1) _ fun x m' v H2 ⟨ds, d, ex, hm, hl, q⟩ e2 m2 r2 => ?_⟩
      subst ex
      obtain ⟨xs, h1, h2⟩ := m2 l ds hm
      have hne : m' l ≠ none ∨ H2 l = none := .inl (by rw [hm]; exact fun z => nomatch z)
      have rv : DvAll (hid H2 m') (xs ++ [v]) (ds ++ [d]) := h2.app (.cons r2 .nil)
      have hp := hid_put (ds := ds ++ [d]) (xs := xs ++ [v]) hne
      refine ⟨l, xs, v, rfl, rfl, h1, by rw [h2.len]; exact small1000 (Nat.le_of_lt hl), ?_⟩
      exact k.nx ρ _ σ _ q (by rw [hp]; exact e1.trans e2) (R.step (by rw [hp]; exact e1.trans e2) (m2.put hne rv)))
theorem ds_while {c : Expr} (hp : PassesOwn (model X.prog X.w) X.A X.env X.xe) (I : Nat → Sl → Mu → Prop) (n0 : Nat) (h0 : I n0 ρ μ)
    (hs : ∀ n ρ' μ', I n ρ' μ' → DT X c ρ' μ' fun k m => if k = true then DSs X body ρ' m { Φ with nx := fun r u => ∃ n', n' < n ∧ I n' r u, ct := fun r u => ∃ n', n' < n ∧ I n' r u, bk := Φ.nx } else Φ.nx ρ' m) : DS X (.While c body [] pos) ρ μ Φ := fun σ H R D k =>
  cS_of (ps_while hp (pt_k c) (pss_k body)) ⟨fun n σ' H' => ∃ ρ' μ', I n ρ' μ' ∧ Rep X.K ρ' μ' σ' H' ∧ Ex (hid H μ) (hid H' μ'), ⟨n0, ρ, μ, h0, R, Ex.refl _⟩, by
    rintro n σ' H' ⟨ρ', μ', hI, R', e'⟩
    refine hs n ρ' μ' hI σ' H' R' _ fun d m H1 q e1 m1 => ?_
    have R1 := R'.step e1 m1
    cases d with
    | true =>
      rw [if_pos rfl] at q ⊢
      refine ⟨fun σ2 H2 => ∃ n', n' < n ∧ ∃ ρ' μ', I n' ρ' μ' ∧ Rep X.K ρ' μ' σ2 H2 ∧ Ex (hid H μ) (hid H2 μ'), fun σ2 H2 z => z, q σ' H1 R1 _ ?_⟩
      have again : PN X.K (fun r u => ∃ n', n' < n ∧ I n' r u) H1 m (fun σ2 H2 => ∃ n', n' < n ∧ ∃ ρ' μ', I n' ρ' μ' ∧ Rep X.K ρ' μ' σ2 H2 ∧ Ex (hid H μ) (hid H2 μ')) := fun r u s2 H2 ⟨n', hn, hI'⟩ e2 R2 => ⟨n', hn, r, u, hI', R2, (e'.trans e1).trans e2⟩
      exact ⟨again, k.rt.from (e'.trans e1), k.nx.from (e'.trans e1), again⟩
    | false =>
      rw [if_neg Bool.false_ne_true] at q ⊢
      exact k.nx ρ' m σ' H1 q (e'.trans e1) R1⟩

/-! ### what is walked -/
/-- the iterator hands out these data -/
def JOk (J : It) (ds : List PyData) (G : Hp) : Prop := ∀ (i : Nat) (H : Hp) (μ : Mu), MuOk μ H → Ex G (hid H μ) →
  (∀ d, ds[i]? = some d → J.go i H ∧ ∀ x H', J.yld i H x H' → MuOk μ H' ∧ Ex (hid H μ) (hid H' μ) ∧ Dv (hid H' μ) x d) ∧ (i = ds.length → J.stop i H)
theorem JOk.mono {J : It} {ds : List PyData} {G G' : Hp} (h : JOk J ds G) (e : Ex G G') : JOk J ds G' := fun i H μ m e' => h i H μ m (e.trans e')
def DI (X : Cx) (tg iter : Expr) (ρ : Sl) (μ : Mu) (R : List PyData → Mu → Prop) : Prop := ∀ σ H, Rep X.K ρ μ σ H → ∀ Rc : It → Hp → Prop,
  (∀ J ds μ' H', R ds μ' → Ex (hid H μ) (hid H' μ') → MuOk μ' H' → JOk J ds (hid H' μ') → Rc J H') → cI X tg iter σ H Rc
variable {iter : Expr} {R : List PyData → Mu → Prop}
theorem jok_same {J : It} {ds : List PyData} {G : Hp} {xs : List V} (r : DvAll G xs ds) (hg : ∀ i H μ, Ex G (hid H μ) → ∀ x, xs[i]? = some x → J.go i H ∧ ∀ y H', J.yld i H y H' → H' = H ∧ y = x) (hs : ∀ H μ, Ex G (hid H μ) → J.stop xs.length H) : JOk J ds G := fun i H μ m e => by
  refine ⟨fun d hd => ?_, fun hi => by rw [hi, ← r.len]; exact hs H μ e⟩
  obtain ⟨v, h1, h2⟩ := r.get hd
  obtain ⟨g1, g2⟩ := hg i H μ e v h1
  refine ⟨g1, fun y H' q => ?_⟩
  obtain ⟨eh, ey⟩ := g2 y H' q
  subst eh ey
  exact ⟨m, Ex.refl _, Dv.mono e _ _ h2⟩
/-- over data that is a list -/
theorem di_list (h : DE X iter ρ μ fun x m => ∃ ds, x = .d (.list ds) ∧ R ds m) : DI X tg iter ρ μ R := fun σ H RR Rc k =>
  cI_of (pi_list (pe_k iter)) (h σ H RR _ fun x m v H1 ⟨ds, ex, q⟩ e1 m1 r1 => by
    subst ex
    cases r1 with
    | @lst a xs _ h1 h2 =>
      have hq : ∀ H' μ', Ex (hid H1 m) (hid H' μ') → SqL X.K H' a xs := fun H' μ' e => .inl (Ex.rd hid_le (e.rd h1))
      refine ⟨a, rfl, ⟨xs, hq H1 m (Ex.refl _)⟩, k _ ds m H1 q e1 m1 (jok_same h2 (fun i H' μ' e x hx => ⟨⟨xs, x, hq H' μ' e, hx⟩, fun y H'' ⟨z1, z2⟩ => ⟨z1, ?_⟩⟩) fun H' μ' e => ⟨xs, hq H' μ' e, Nat.le_refl _⟩)⟩
      exact Option.some.inj ((z2 xs (hq H' μ' e)).symm.trans hx))
theorem di_tup (h : DE X iter ρ μ fun x m => ∃ ds, x = .d (.tuple ds) ∧ R ds m) : DI X tg iter ρ μ R := fun σ H RR Rc k =>
  cI_of (pi_tup (pe_k iter)) (h σ H RR _ fun x m v H1 ⟨ds, ex, q⟩ e1 m1 r1 => by
    subst ex
    cases r1 with
    | @tup a xs _ h1 h2 =>
      have hq : ∀ H' μ', Ex (hid H1 m) (hid H' μ') → SqT X.K H' a xs := fun H' μ' e => SqT.of (hid_le _ _ (e _ _ h1))
      refine ⟨a, rfl, ⟨xs, hq H1 m (Ex.refl _)⟩, k _ ds m H1 q e1 m1 (jok_same h2 (fun i H' μ' e x hx => ⟨⟨xs, x, hq H' μ' e, hx⟩, fun y H'' ⟨z1, z2⟩ => ⟨z1, ?_⟩⟩) fun H' μ' e => ⟨xs, hq H' μ' e, Nat.le_refl _⟩)⟩
      exact Option.some.inj ((z2 xs (hq H' μ' e)).symm.trans hx))
/-- 0, 1, .. below n, as data -/
def upto (n : Nat) : List PyData := (List.range n).map fun i => .int (i : Nat)
theorem upto_len {n : Nat} : (upto n).length = n := by unfold upto; rw [List.length_map, List.length_range]
theorem upto_get {n i : Nat} {d : PyData} (h : (upto n)[i]? = some d) : i < n ∧ d = .int (i : Nat) := by
  unfold upto at h
  rw [List.getElem?_map] at h
  by_cases hi : i < n
  · rw [List.getElem?_range hi] at h
    exact ⟨hi, (Option.some.inj h).symm⟩
  · rw [List.getElem?_eq_none (by rw [List.length_range]; omega)] at h
    cases h
theorem di_range {e : Expr} (hm : X.mg "range" = none) (h : DE X e ρ μ fun x m => ∃ n : Int, x = .d (.int n) ∧ -(2 ^ 62) ≤ n ∧ n < 2 ^ 62 ∧ R (upto n.toNat) m) (hg : Gl X "range" := by rfl) (hs : starEach [e] X.env = [(false, eval e X.env)] := by rfl)
    (hs' : starEach (e :: []) X.env = (false, eval e X.env) :: starEach [] X.env := by rfl) : DI X tg (.Call (.Name "range" p) [e] [] pos) ρ μ R := fun σ H RR Rc k =>
  cI_of (pi_range1 hg hm (pa_cons (pe_k e) pa_nil hs') hs) (h σ H RR _ fun x m v H1 ⟨n, ex, h1, h2, q⟩ e1 m1 r1 => by
    subst ex
    cases r1
    refine ⟨n, rfl, h1, h2, k _ _ m H1 q e1 m1 fun i H' μ' m' e => ⟨fun d hd => ?_, fun hi => ?_⟩⟩
    · obtain ⟨hi, rfl⟩ := upto_get hd
      refine ⟨hi, fun y H'' ⟨z1, z2⟩ => ?_⟩
      subst z1 z2
      refine ⟨m', Ex.refl _, ?_⟩
      rw [Int.zero_add]
      exact .int _
    · show n.toNat ≤ i
      rw [hi, upto_len]
      exact Nat.le_refl _)

/-! ### for -/
/-- the turns one behind another -/
def DFor (T : PyData → Sl → Mu → DEnds → Prop) (Φ : DEnds) : List PyData → Sl → Mu → Prop
  | [], ρ, μ => Φ.nx ρ μ
  | d :: ds, ρ, μ => T d ρ μ { Φ with nx := DFor T Φ ds, ct := DFor T Φ ds, bk := Φ.nx }
def forTurn (X : Cx) (tg : Expr) (body : List Stmt) (d : PyData) (ρ : Sl) (μ : Mu) (Φ : DEnds) : Prop := DG X tg (.d d) ρ μ fun ρ' μ' => DSs X body ρ' μ' Φ
theorem ds_for (hp : PassesOwn (model X.prog X.w) X.A X.env X.xe) (h : DI X tg iter ρ μ fun ds m => DFor (forTurn X tg body) Φ ds ρ m) (hc : X.calm = true := by rfl) (hs : ∀ x, foldedSetIterable iter X.env x = pure x := by intro _; rfl) : DS X (.For tg iter body [] pos) ρ μ Φ := fun σ H RR D k =>
  cS_of (ps_for hp hc (pi_k tg iter) (pg_k tg) (pss_k body) hs) (h σ H RR _ fun J ds m H1 q e1 m1 jo => by
    refine ⟨fun i n σ' H' => n = ds.length - i ∧ i ≤ ds.length ∧ ∃ ρ' μ', DFor (forTurn X tg body) Φ (ds.drop i) ρ' μ' ∧ Rep X.K ρ' μ' σ' H' ∧ Ex (hid H1 m) (hid H' μ'), ⟨ds.length, by simp, Nat.zero_le _, ρ, m, q, RR.step e1 m1, Ex.refl _⟩, ?_⟩
    rintro i n σ' H' ⟨rfl, hi, ρ', μ', qf, R', e'⟩
    obtain ⟨jg, js⟩ := jo i H' μ' R'.mu e'
    by_cases hlt : i < ds.length
    · have hd : ds[i]? = some ds[i] := List.getElem?_eq_getElem hlt
      obtain ⟨g1, g2⟩ := jg _ hd
      rw [List.drop_eq_getElem_cons hlt] at qf
      have again : ∀ {H2 : Hp} {u : Mu}, Ex (hid H' μ') (hid H2 u) → PN X.K (DFor (forTurn X tg body) Φ (ds.drop (i + 1))) H2 u (fun σ3 H3 => ∃ ρ' μ', DFor (forTurn X tg body) Φ (ds.drop (i + 1)) ρ' μ' ∧ Rep X.K ρ' μ' σ3 H3 ∧ Ex (hid H1 m) (hid H3 μ')) :=
        fun e2 r u s3 H3 z e3 R3 => ⟨r, u, z, R3, (e'.trans e2).trans e3⟩
      refine .inr ⟨g1, fun σ3 H3 => ∃ ρ' μ', DFor (forTurn X tg body) Φ (ds.drop (i + 1)) ρ' μ' ∧ Rep X.K ρ' μ' σ3 H3 ∧ Ex (hid H1 m) (hid H3 μ'), fun σ3 H3 z => ⟨ds.length - (i + 1), by omega, rfl, hlt, z⟩, fun x H2 y => ?_⟩
      obtain ⟨m2, e2, r2⟩ := g2 x H2 y
      refine qf σ' H2 x (R'.step e2 m2) r2 _ fun ρ3 μ3 σ3 H3 q3 e3 R3 => q3 σ3 H3 R3 _ ?_
      exact ⟨again (e2.trans e3), k.rt.from (((e1.trans e').trans e2).trans e3), k.nx.from (((e1.trans e').trans e2).trans e3), again (e2.trans e3)⟩
    · have e0 : i = ds.length := by omega
      subst e0
      rw [List.drop_length] at qf
      exact .inl ⟨js rfl, k.nx ρ' μ' σ' H' qf (e1.trans e') R'⟩)
end
end T12
end
section
set_option Elab.async false
set_option linter.all false
set_option maxRecDepth 100000
set_option maxHeartbeats 2000000
namespace T12
open PySem PySem.Spec PyProof.Rows L2
/-! ### list comprehensions -/
theorem wipe_get {σ : L2.St} {k : Nat} : ∀ {vs : List Nat}, (wipe σ vs)[k]? = if k ∈ vs then (if k < σ.length then some none else none) else σ[k]?
  | [] => by unfold wipe; rw [if_neg (by simp)]
  | v :: vs => by
    unfold wipe
    by_cases h : v = k
    · subst h
      rw [if_pos (by simp)]
      by_cases hl : v < σ.length
      · rw [if_pos hl, List.getElem?_set_self (by rw [wipe_length]; exact hl)]
      · rw [if_neg hl, List.getElem?_eq_none (by rw [List.length_set, wipe_length]; omega)]
    · rw [List.getElem?_set_ne h, wipe_get (vs := vs)]
      by_cases h2 : k ∈ vs
      · rw [if_pos h2, if_pos (List.mem_cons_of_mem _ h2)]
      · rw [if_neg h2, if_neg (by simp only [List.mem_cons, not_or]; exact ⟨fun e => h e.symm, h2⟩)]
/-- slots of the same length that differ at vs alone -/
theorem wipe_eq {σ σ' : L2.St} {vs : List Nat} (hl : σ'.length = σ.length) (h : ∀ k, k ∉ vs → σ'[k]? = σ[k]?) : wipe σ' vs = wipe σ vs := by
  apply List.ext_getElem?
  intro k
  rw [wipe_get, wipe_get, hl]
  by_cases hk : k ∈ vs
  · rw [if_pos hk, if_pos hk]
  · rw [if_neg hk, if_neg hk, h k hk]
def wipeD (ρ : Sl) : List Nat → Sl
  | [] => ρ
  | v :: vs => (wipeD ρ vs).set v none
theorem Rep.wipe {K : PySem.W.Frag} {ρ : Sl} {μ : Mu} {σ : L2.St} {H : Hp} (r : Rep K ρ μ σ H) : ∀ vs : List Nat, Rep K (wipeD ρ vs) μ (L2.wipe σ vs) H
  | [] => r
  | v :: vs => (Rep.wipe r vs).unset
/-- a comprehension's target over data -/
structure Bd (g : TG) (vs : List Nat) (bd : PyData → Sl → Option Sl) : Prop where
  ok : ∀ (K : PySem.W.Frag) (d : PyData) (ρ ρ' : Sl) (σ : L2.St) (H : Hp) (μ : Mu) (x : V) (Qc : L2.St → Hp → Prop), bd d ρ = some ρ' → Rep K ρ μ σ H → Dv (hid H μ) x d →
    (∀ σ2, Rep K ρ' μ σ2 H → L2.wipe σ2 vs = L2.wipe σ vs → Qc σ2 H) → g x σ H Qc
def bdN (i : Nat) : PyData → Sl → Option Sl := fun d ρ => some (ρ.set i (some (.d d)))
theorem bd_name (i : Nat) : Bd (gName i) [i] (bdN i) := ⟨fun K d ρ ρ' σ H μ x Qc e R r k => by
  cases e
  refine k _ (R.set r) (wipe_eq (by rw [List.length_set]) fun n hn => ?_)
  rw [List.getElem?_set_ne (by intro e; apply hn; simp [e])]⟩
def bd2 (i j : Nat) : PyData → Sl → Option Sl
  | .tuple [a, b], ρ => some ((ρ.set i (some (.d a))).set j (some (.d b)))
  | _, _ => none
def gT2 (K : PySem.W.Frag) (i j : Nat) : TG := gTup K 2 (gCons (gName i) (gCons (gName j) gNil))
theorem dv_tup2 {G : Hp} {x : V} {a b : PyData} (h : Dv G x (.tuple [a, b])) : ∃ l u v, x = .ref l ∧ G l = some (.tup [u, v]) ∧ Dv G u a ∧ Dv G v b := by
  cases h with
  | tup h1 h2 =>
    cases h2 with
    | cons q1 h3 =>
      cases h3 with
      | cons q2 h4 => cases h4; exact ⟨_, _, _, rfl, h1, q1, q2⟩
theorem dv_tup3 {G : Hp} {x : V} {a b c : PyData} (h : Dv G x (.tuple [a, b, c])) : ∃ l u v w, x = .ref l ∧ G l = some (.tup [u, v, w]) ∧ Dv G u a ∧ Dv G v b ∧ Dv G w c := by
  cases h with
  | tup h1 h2 =>
    cases h2 with
    | cons q1 h3 =>
      cases h3 with
      | cons q2 h4 =>
        cases h4 with
        | cons q3 h5 => cases h5; exact ⟨_, _, _, _, rfl, h1, q1, q2, q3⟩
theorem bd_two (K0 : PySem.W.Frag) (i j : Nat) : Bd (gT2 K0 i j) [i, j] (bd2 i j) := ⟨fun K d ρ ρ' σ H μ x Qc e R r k => by
  unfold bd2 at e
  split at e
  · cases e
    obtain ⟨l, u, v, rfl, h1, q1, q2⟩ := dv_tup2 r
    refine ⟨l, _, rfl, SqT.of (hid_le _ _ h1), rfl, u, _, rfl, v, _, rfl, rfl, k _ ((R.set (x := .d _) q1).set (x := .d _) q2) (wipe_eq (by rw [List.length_set, List.length_set]) fun n hn => ?_)⟩
    simp only [List.mem_cons, List.not_mem_nil, or_false, not_or] at hn
    rw [List.getElem?_set_ne (fun z => hn.2 z.symm), List.getElem?_set_ne (fun z => hn.1 z.symm)]
  · cases e⟩
def bd3 (i j l : Nat) : PyData → Sl → Option Sl
  | .tuple [a, b, c], ρ => some (((ρ.set i (some (.d a))).set j (some (.d b))).set l (some (.d c)))
  | _, _ => none
def gT3 (K : PySem.W.Frag) (i j l : Nat) : TG := gTup K 3 (gCons (gName i) (gCons (gName j) (gCons (gName l) gNil)))
theorem bd_three (K0 : PySem.W.Frag) (i j n : Nat) : Bd (gT3 K0 i j n) [i, j, n] (bd3 i j n) := ⟨fun K d ρ ρ' σ H μ x Qc e R r k => by
  unfold bd3 at e
  split at e
  · cases e
    obtain ⟨l, u, v, w, rfl, h1, q1, q2, q3⟩ := dv_tup3 r
    refine ⟨l, _, rfl, SqT.of (hid_le _ _ h1), rfl, u, _, rfl, v, _, rfl, w, _, rfl, rfl, k _ (((R.set (x := .d _) q1).set (x := .d _) q2).set (x := .d _) q3) (wipe_eq (by rw [List.length_set, List.length_set, List.length_set]) fun m hn => ?_)⟩
    simp only [List.mem_cons, List.not_mem_nil, or_false, not_or] at hn
    rw [List.getElem?_set_ne (fun z => hn.2.2 z.symm), List.getElem?_set_ne (fun z => hn.2.1 z.symm), List.getElem?_set_ne (fun z => hn.1 z.symm)]
  · cases e⟩

/-- the context of the block -/
abbrev BX (X : Cx) (scope : Scope) (s : Shared) (H : Hp) (C : Addr) (cl : List (Str × Addr)) (fp : List Addr) : Cx := X.blk s H scope (compEnvC scope cl C X.env) fp
/-- whatever block it is -/
def uE (X : Cx) (scope : Scope) (e : Expr) : TE := fun σ H Q => ∀ s H0 C cl fp, cE (BX X scope s H0 C cl fp) e σ H Q
def uT (X : Cx) (scope : Scope) (e : Expr) : TT := fun σ H Q => ∀ s H0 C cl fp, cT (BX X scope s H0 C cl fp) e σ H Q
def DUE (X : Cx) (scope : Scope) (e : Expr) (ρ : Sl) (μ : Mu) (Q : SV → Mu → Prop) : Prop := ∀ s H0 C cl fp, DE (BX X scope s H0 C cl fp) e ρ μ Q
def DUT (X : Cx) (scope : Scope) (e : Expr) (ρ : Sl) (μ : Mu) (Q : Bool → Mu → Prop) : Prop := ∀ s H0 C cl fp, DT (BX X scope s H0 C cl fp) e ρ μ Q
/-- the tests: none, or one -/
structure Ts (X : Cx) (scope : Scope) (ifs : List Expr) (tt : TT) (dt : Sl → Mu → (Bool → Mu → Prop) → Prop) : Prop where
  rule : ∀ (s : Shared) (H : Hp) (C : Addr) (cl : List (Str × Addr)) (fp : List Addr), PTs (BX X scope s H C cl fp) ifs tt
  ok : ∀ ρ μ σ H Q Qc, Rep X.K ρ μ σ H → dt ρ μ Q → PB Q H μ Qc → tt σ H Qc
theorem ts_nil (X : Cx) (scope : Scope) : Ts X scope [] tYes (fun _ μ Q => Q true μ) := ⟨fun _ _ _ _ _ => pts_nil, fun ρ μ σ H Q Qc R q k => k true μ H q (Ex.refl _) R.mu⟩
theorem ts_one (X : Cx) (scope : Scope) (c : Expr) : Ts X scope [c] (uT X scope c) (DUT X scope c) := ⟨fun s H C cl fp => pts_one ⟨fun pins s1 σ H1 Q I h => h s H C cl fp pins s1 I⟩, fun ρ μ σ H Q Qc R q k s H0 C cl fp => q s H0 C cl fp σ H R Qc k⟩
/-- one turn: from the item and the list so far; none where it is dropped -/
abbrev LT := PyData → List PyData → Mu → (Option PyData → Mu → Prop) → Prop
def DLc (T : LT) (Kf : List PyData → Mu → Prop) : List PyData → List PyData → Mu → Prop
  | [], acc, μ => Kf acc μ
  | d :: ds, acc, μ => T d acc μ fun o m => DLc T Kf ds (match o with | some p => acc ++ [p] | none => acc) m
def lcTurn (X : Cx) (scope : Scope) (elt : Expr) (dt : Sl → Mu → (Bool → Mu → Prop) → Prop) (bd : PyData → Sl → Option Sl) (vs : List Nat) (ρ : Sl) : LT := fun d acc μ R => ∃ ρ', bd d (wipeD ρ vs) = some ρ' ∧ ∀ D, μ D = none →
  dt ρ' (put μ D acc) fun b m => if b = true then DUE X scope elt ρ' m fun x m' => ∃ p, x = .d p ∧ m' D = some acc ∧ R (some p) (era m' D) else m D = some acc ∧ R none (era m D)
theorem put_era {μ : Mu} {D : Addr} {ds : List PyData} : put (era μ D) D ds = put μ D ds := by
  funext b; unfold put era
  by_cases e : b = D
  · rw [if_pos e, if_pos e]
  · rw [if_neg e, if_neg e, if_neg e]
theorem put_self {μ : Mu} {D : Addr} {ds : List PyData} (h : μ D = some ds) : put μ D ds = μ := by
  funext b; unfold put
  by_cases e : b = D
  · subst e; rw [if_pos rfl, h]
  · rw [if_neg e]
section
variable {X : Cx} {ρ : Sl} {μ : Mu} {Q : SV → Mu → Prop} {Φ : DEnds} {elt tg iter : Expr} {ifs : List Expr} {scope : Scope} {own : List (Str × Nat)} {pos p p' : Pos} {g : TG} {vs : List Nat} {bd : PyData → Sl → Option Sl} {tt : TT} {dt : Sl → Mu → (Bool → Mu → Prop) → Prop}
theorem lc_read (B : Bd g vs bd) (S : Ts X scope ifs tt dt) {σ : L2.St} {H : Hp} (RR : Rep X.K ρ μ σ H) (h : DI X tg iter ρ μ fun ds m => ds.length ≤ 1000 ∧ DLc (lcTurn X scope elt dt bd vs ρ) (fun acc m => Q (.d (.list acc)) m) ds [] m) {Qc : VK} (k : PK X.K Q H μ Qc) :
    tLc (cI X tg iter) g tt (uE X scope elt) vs σ H Qc := h σ H RR _ fun J ds m1 H1 ⟨hlen, q⟩ e1 mk1 jo => by
  intro D hD
  have Rw : Rep X.K (wipeD ρ vs) m1 (L2.wipe σ vs) H1 := (RR.step e1 mk1).wipe vs
  have hm1 : m1 D = none := mk1.fresh hD
  refine ⟨fun i n H' => n = ds.length - i ∧ i ≤ ds.length ∧ ∃ acc μ', acc.length ≤ i ∧ DLc (lcTurn X scope elt dt bd vs ρ) (fun acc m => Q (.d (.list acc)) m) (ds.drop i) acc μ' ∧ μ' D = none ∧ MuOk (put μ' D acc) H' ∧ Ex (hid H1 m1) (hid H' (put μ' D acc)),
    ⟨ds.length, by simp, Nat.zero_le _, [], m1, Nat.le_refl _, q, hm1, mk1.put (.inr hD) .nil, by rw [hid_put (.inr hD)]; exact Ex.refl _⟩, ?_⟩
  rintro i n H' ⟨rfl, hi, acc, μ', hal, ql, hmD, mk, ex⟩
  obtain ⟨jg, js⟩ := jo i H' (put μ' D acc) mk ex
  by_cases hlt : i < ds.length
  · have hd : ds[i]? = some ds[i] := List.getElem?_eq_getElem hlt
    obtain ⟨g1, g2⟩ := jg _ hd
    rw [List.drop_eq_getElem_cons hlt] at ql
    obtain ⟨ρ', hb, turn⟩ := ql
    refine .inr ⟨g1, fun H2 => ∃ acc μ', acc.length ≤ i + 1 ∧ DLc (lcTurn X scope elt dt bd vs ρ) (fun acc m => Q (.d (.list acc)) m) (ds.drop (i + 1)) acc μ' ∧ μ' D = none ∧ MuOk (put μ' D acc) H2 ∧ Ex (hid H1 m1) (hid H2 (put μ' D acc)),
      fun H2 z => ⟨ds.length - (i + 1), by omega, rfl, hlt, z⟩, fun x H2 y => ?_⟩
    obtain ⟨m2, e2, r2⟩ := g2 x H2 y
    refine B.ok X.K _ _ ρ' _ H2 (put μ' D acc) x _ hb (Rw.step (ex.trans e2) m2) r2 fun σ2 R2 hw => ⟨?_, ?_⟩
    · rw [hw]
      apply wipe_eq (by rw [wipe_length])
      intro n hn
      rw [wipe_get, if_neg hn]
    · refine S.ok ρ' _ σ2 H2 _ _ R2 (turn D hmD) fun b m H3 qb e3 m3 => ?_
      cases b with
      | true =>
        rw [if_pos rfl] at qb ⊢
        intro s H0 C cl fp
        refine qb s H0 C cl fp σ2 H3 (R2.step e3 m3) _ fun z m' v H4 ⟨pd, ez, hmD', hR⟩ e4 m4 r4 => ?_
        subst ez
        obtain ⟨xs, x1, x2⟩ := m4 D acc hmD'
        have hne : m' D ≠ none ∨ H4 D = none := .inl (by rw [hmD']; exact fun z => nomatch z)
        refine ⟨xs, x1, by rw [x2.len]; exact small1000 (by omega), acc ++ [pd], era m' D, by rw [List.length_append, List.length_singleton]; omega, hR, if_pos rfl, ?_, ?_⟩
        · rw [put_era]; exact m4.put hne (x2.app (.cons r4 .nil))
        · rw [put_era, hid_put hne]
          exact ((ex.trans e2).trans e3).trans e4
      | false =>
        rw [if_neg Bool.false_ne_true] at qb ⊢
        obtain ⟨hmD', hR⟩ := qb
        refine ⟨acc, era m D, by omega, hR, if_pos rfl, ?_, ?_⟩
        · rw [put_era, put_self hmD']; exact m3
        · rw [put_era, put_self hmD']; exact (ex.trans e2).trans e3
  · have e0 : i = ds.length := by omega
    subst e0
    rw [List.drop_length] at ql
    have em : era (put μ' D acc) D = μ' := era_put hmD
    have q2 := dv_era mk (a := D) (ds := acc) put_same
    rw [em] at q2
    have e9 : Ex (hid H' (put μ' D acc)) (hid H' μ') := by
      have z := ex_era (μ := put μ' D acc) (H := H') (a := D)
      rw [em] at z
      exact z
    have m9 : MuOk μ' H' := by
      have z := mk.era (a := D)
      rw [em] at z
      exact z
    exact .inl ⟨js rfl, k _ μ' _ H' ql ((e1.trans ex).trans e9) m9 q2⟩
theorem de_lc (hN : X.N.Nodup) (B : Bd g (own.map (·.2)) bd) (S : Ts X scope ifs tt dt) (ok : BlkOk X.N X.env.scope scope own) (hg : ∀ (s : Shared) (H : Hp) (C : Addr) (cl : List (Str × Addr)) (fp : List Addr), PG (BX X scope s H C cl fp) tg g)
    (h : DI X tg iter ρ μ fun ds m => ds.length ≤ 1000 ∧ DLc (lcTurn X scope elt dt bd (own.map (·.2)) ρ) (fun acc m => Q (.d (.list acc)) m) ds [] m) (hc : X.calm = true := by rfl) (hs : ∀ x, foldedSetIterable iter X.env x = pure x := by intro _; rfl) : DE X (.ListComp elt [⟨tg, iter, ifs, 0⟩] scope pos) ρ μ Q := fun σ H R Qc k =>
  cE_of (pe_lc hc hN (pi_k tg iter) ok hg S.rule (fun s H0 C cl fp => ⟨fun pins s1 σ1 H1 Q1 I hq => hq s H0 C cl fp pins s1 I⟩) hs) (lc_read B S R h k)
theorem ds_setLc {i : Nat} {n : Str} (hN : X.N.Nodup) (B : Bd g (own.map (·.2)) bd) (S : Ts X scope ifs tt dt) (ok : BlkOk X.N X.env.scope scope own) (hg : ∀ (s : Shared) (H : Hp) (C : Addr) (cl : List (Str × Addr)) (fp : List Addr), PG (BX X scope s H C cl fp) tg g)
    (hsw : swapsWith (.ListComp elt [⟨tg, iter, ifs, 0⟩] scope pos) (some (.Name n p)) p'.line X.env = pure true)
    (h : DI X tg iter ρ μ fun ds m => ds.length ≤ 1000 ∧ DLc (lcTurn X scope elt dt bd (own.map (·.2)) ρ) (fun acc m => Φ.nx (ρ.set i (some (.d (.list acc)))) m) ds [] m) (hi : X.N[i]? = some n := by rfl) (hl : X.env.scope.names.lookup n = some .local := by rfl) (hc : X.calm = true := by rfl)
    (hs : ∀ x, foldedSetIterable iter X.env x = pure x := by intro _; rfl) : DS X (.Assign [.Name n p] (.ListComp elt [⟨tg, iter, ifs, 0⟩] scope pos) p') ρ μ Φ := fun σ H R D k =>
  cS_of (ps_setLc hc hN hi hl hsw (pi_k tg iter) ok hg S.rule (fun s H0 C cl fp => ⟨fun pins s1 σ1 H1 Q1 I hq => hq s H0 C cl fp pins s1 I⟩) hs)
    (lc_read (Q := fun x m => Φ.nx (ρ.set i (some x)) m) B S R h fun x m v H1 q e1 m1 r1 => k.nx _ m _ H1 q e1 ((R.step e1 m1).set r1))
end
end T12
end
section
set_option Elab.async false
set_option linter.all false
set_option maxRecDepth 100000
set_option maxHeartbeats 2000000
namespace T12
open PySem PySem.Spec PyProof.Rows L2
/-! ### isinstance -/
def tyN : SV → Option String
  | .d .none => some "NoneType"
  | .d (.bool _) => some "bool"
  | .d (.int _) => some "int"
  | .d (.str _) => some "str"
  | .d (.list _) => some "list"
  | .d (.tuple _) => some "tuple"
  | .d (.dict _) => none
  | .m _ => some "list"
  | .o _ _ => none
  | .t T => some T
  | .pr _ => none
theorem rv_ty {K : PySem.W.Frag} {μ : Mu} {H : Hp} {x : SV} {v : V} {T : String} {ds : Option (List PyData)} (r : Rv K (hid H μ) x v) (h : tyN x = some T) (hm : ∀ a, x = .m a → ∃ xs, H a = some (.lst xs)) : TyX K H v (.type T) := by
  cases x with
  | d p =>
    have r' : Dv (hid H μ) v p := r
    cases r' with
    | non => cases h; exact .base .non
    | bl b => cases h; exact .base (.bl b)
    | int i => cases h; exact .base (.int i)
    | str z => cases h; exact .base (.str z)
    | lst h1 h2 =>
      cases h
      rcases h1 with h1 | ⟨o, h1⟩
      · exact .base (.lst (hid_le _ _ h1))
      · exact .base (.frz (hid_le _ _ h1))
    | tup h1 h2 => cases h; exact .base (.tup (hid_le _ _ h1))
  | m a =>
    cases h
    cases (show v = .ref a from r)
    obtain ⟨xs, e⟩ := hm a rfl
    exact .base (.lst e)
  | o C fs => cases h
  | t T' => cases h; exact .base (TyOf.mono hid_le r)
  | pr _ => cases h
/-- a list that is being changed is known -/
def known (μ : Mu) : SV → Prop
  | .m a => (μ a).isSome = true
  | _ => True
theorem known_lst {μ : Mu} {H : Hp} {x : SV} (m : MuOk μ H) (h : known μ x) : ∀ a, x = .m a → ∃ xs, H a = some (.lst xs) := fun a e => by
  subst e
  obtain ⟨ds, hd⟩ := Option.isSome_iff_exists.mp h
  obtain ⟨xs, h1, _⟩ := m a ds hd
  exact ⟨xs, h1⟩
section
variable {X : Cx} {ρ : Sl} {μ : Mu} {Q : SV → Mu → Prop} {e : Expr} {pos p p2 p3 p4 : Pos}
/-- isinstance(e, T), T a built-in type -/
theorem de_isT {T : Str} {n : String} (hm : X.mg "isinstance" = none) (hmT : X.mg T = none) (hv : bootBuiltins T = some (.type n)) (h : DE X e ρ μ fun x m => ∃ t b, tyN x = some t ∧ known m x ∧ kitB t n = some b ∧ Q (.d (.bool b)) m) (hg : Gl X "isinstance" := by rfl) (hgT : Gl X T := by rfl)
    (hn : T ≠ "__name__" := by decide) (hd : (T == ("__debug__" : Str)) = false := by decide)
    (he : starEach (e :: [.Name T p2]) X.env = (false, eval e X.env) :: starEach [.Name T p2] X.env := by rfl) (he2 : starEach [.Name T p2] X.env = (false, eval (.Name T p2) X.env) :: starEach [] X.env := by rfl) (hpl : (backTo pos (starEach [.Name T p2] X.env)).any (·.1) = false := by rfl) :
    DE X (.Call (.Name "isinstance" p) [e, .Name T p2] [] pos) ρ μ Q := fun σ H R Qc k =>
  cE_of (pe_callB call_isi hg hm (by decide +kernel) (pa_cons (pe_k e) (pa_cons (pe_bltn (v := .ty n) hgT hmT hv rfl hn hd) pa_nil he2) he) (by decide) (by decide) he hpl)
    (h σ H R _ fun x m v H1 ⟨t, b, ht, hk, hb, q⟩ e1 m1 r1 => ⟨v, .ty n, .type t, .type n, b, rfl, .ty n, rv_ty (ds := none) r1 ht (known_lst m1 hk), kit_ty hb, k _ m _ H1 q e1 m1 (.bl _)⟩)
/-- isinstance(e, (list, tuple)) -/
theorem de_isLT {k0 : Nat} (hm : X.mg "isinstance" = none) (hm1 : X.mg "list" = none) (hm2 : X.mg "tuple" = none) (h : DE X e ρ μ fun x m => ∃ t b, tyN x = some t ∧ known m x ∧ (kitB t "list" = some true ∧ b = true ∨ kitB t "list" = some false ∧ kitB t "tuple" = some b) ∧ Q (.d (.bool b)) m) (hg : Gl X "isinstance" := by rfl) (hg1 : Gl X "list" := by rfl) (hg2 : Gl X "tuple" := by rfl)
    (he : starEach (e :: [.Tuple [.Name "list" p2, .Name "tuple" p3] k0 p4]) X.env = (false, eval e X.env) :: starEach [.Tuple [.Name "list" p2, .Name "tuple" p3] k0 p4] X.env := by rfl) (he2 : starEach [.Tuple [.Name "list" p2, .Name "tuple" p3] k0 p4] X.env = (false, eval (.Tuple [.Name "list" p2, .Name "tuple" p3] k0 p4) X.env) :: starEach [] X.env := by rfl)
    (he3 : starEach (.Name "list" p2 :: [.Name "tuple" p3]) X.env = (false, eval (.Name "list" p2) X.env) :: starEach [.Name "tuple" p3] X.env := by rfl) (he4 : starEach (.Name "tuple" p3 :: []) X.env = (false, eval (.Name "tuple" p3) X.env) :: starEach [] X.env := by rfl)
    (hpl : (backTo pos (starEach [.Tuple [.Name "list" p2, .Name "tuple" p3] k0 p4] X.env)).any (·.1) = false := by rfl) :
    DE X (.Call (.Name "isinstance" p) [e, .Tuple [.Name "list" p2, .Name "tuple" p3] k0 p4] [] pos) ρ μ Q := fun σ H R Qc k =>
  cE_of (pe_callB call_isiT hg hm (by decide +kernel) (pa_cons (pe_k e) (pa_cons (pe_tup (pa_cons (pe_bltn (v := .ty "list") hg1 hm1 (by decide +kernel) rfl) (pa_cons (pe_bltn (v := .ty "tuple") hg2 hm2 (by decide +kernel) rfl) pa_nil he4) he3)) pa_nil he2) he) (by decide) (by decide) he hpl)
    (h σ H R _ fun x m v H1 ⟨t, b, ht, hk, hb, q⟩ e1 m1 r1 => ⟨by show 2 ≤ sizeLine; decide, fun l hl => by
      have ty : TyX X.K (upd H1 l (.tup [.ty "list", .ty "tuple"])) v (.type t) := by
        have h0 := rv_ty (ds := none) (μ := m) (H := upd H1 l (.tup [.ty "list", .ty "tuple"])) (r1.mono (ex_new hl)) ht (known_lst (m1.new hl) hk)
        exact h0
      refine ⟨v, l, [.ty "list", .ty "tuple"], .type t, [.type "list", .type "tuple"], b, rfl, upd_same, .cons (.ty _) (.cons (.ty _) .nil), ty, ?_, k _ m _ _ q (e1.trans (ex_new hl)) (m1.new hl) (.bl _)⟩
      rcases hb with ⟨hb, rfl⟩ | ⟨h1, h2⟩
      · exact kitAny_cons (kit_ty hb) (fun z => nomatch z) fun _ => rfl
      · refine kitAny_cons (kit_ty h1) (fun _ => kitAny_cons (kit_ty h2) (fun z => by rw [z]; rfl) fun z => z) fun z => nomatch z⟩)
end

/-! ### a def of the text -/
def topS (i : Nat) : Stmt := PySem.Challenge.pw_timesfloor_k12_whole_machines_moved_and.main.body.getD i (.Pass ⟨0, 0, 0, 0⟩)
/-- the def stands behind the top; how its parameters are bound -/
structure Tp (K : PySem.W.Frag) (mg : Str → Option Value) (x : Str) (st : Stmt) (ps : List Str) (ds : List Value) : Prop where
  ex : ∃ f fd, C8.Def K mg x st f fd ∧ Binds K fd ps ds
abbrev BD (P : Program) (w : World) (K : PySem.W.Frag) (mg : Str → Option Value) (base : Heap) (N : List Str) (x : Str) (st : Stmt) (f : Addr) (cdv : Value) (A : Around) (outer : List Env) (s : Shared) (H : Hp) (E : XK) : Cx :=
  (cxOf CX0 P w K mg base N x (C8.fnScope st) f cdv A outer s H E).nox
def startD (N : List Str) (xs : List SV) : Sl := xs.map some ++ List.replicate (N.length - xs.length) none
theorem rep_start {K : PySem.W.Frag} {N : List Str} {xs : List SV} {vs : List V} {μ : Mu} {H : Hp} (m : MuOk μ H) (r : RvAll K (hid H μ) xs vs) : Rep K (startD N xs) μ (L2.start N vs) H := by
  have hl : xs.length = vs.length := Paired.length r
  refine ⟨fun i x e => ?_, m, by unfold startD L2.start; rw [List.length_append, List.length_append, List.length_map, List.length_map, List.length_replicate, List.length_replicate, hl]⟩
  unfold startD at e
  unfold L2.start
  by_cases hi : i < xs.length
  · rw [List.getElem?_append_left (by simpa using hi), List.getElem?_map] at e
    have key : ∀ {l : List SV} {us : List V} {j : Nat} {y : SV}, RvAll K (hid H μ) l us → l[j]? = some y → ∃ v, us[j]? = some v ∧ Rv K (hid H μ) y v := by
      intro l us j y hr
      induction hr generalizing j with
      | nil => intro h; simp at h
      | cons q t ih =>
        intro h
        cases j with
        | zero => obtain rfl := Option.some.inj (by simpa using h); exact ⟨_, rfl, q⟩
        | succ j => obtain ⟨v, a1, a2⟩ := ih (j := j) (by simpa using h); exact ⟨v, by simpa using a1, a2⟩
    cases q : xs[i]? with
    | none => rw [q] at e; cases e
    | some y =>
      rw [q] at e
      cases e
      obtain ⟨v, h1, h2⟩ := key r q
      refine ⟨v, ?_, h2⟩
      rw [List.getElem?_append_left (by rw [List.length_map, ← hl]; exact hi), List.getElem?_map, h1]
      rfl
  · rw [List.getElem?_append_right (by rw [List.length_map]; omega), List.getElem?_replicate] at e
    split at e <;> cases e
section
variable {P : Program} {w : World} {K : PySem.W.Frag} {mg : Str → Option Value} {base : Heap}
theorem d_ok {x : Str} {st : Stmt} {N ps : List Str} {ds : List Value} {dvs : List V} {k n : Nat} {dsp : DSp} (T : Tp K mg x st ps ds) (d : Vals dvs ds) (S : FnScope N ps (C8.fnScope st)) (hn : ps.length = n)
    (h : ∀ (f : Addr) (cdv : Value) (A : Around) (outer : List Env) (s : Shared) (H : Hp) (E : XK), Room k (BD P w K mg base N x st f cdv A outer s H E).A → ∀ (xs : List SV) (μ : Mu) (Q : SV → Mu → Prop), xs.length = n → dsp xs μ Q →
      DSs (BD P w K mg base N x st f cdv A outer s H E) (C8.fnBody st) (startD N xs) μ { nx := fun _ m => Q (.d .none) m, rt := Q }) : C8.Cal P w K mg base (k + 1) x (spD K n dsp) dvs := by
  obtain ⟨f, fd, F, b⟩ := T.ex
  refine C8.cal0 F b d S (fun vs H Q E ⟨xs, μ, P', hl, _, r, _, _⟩ => by rw [← Paired.length r, hl, hn]) fun cdv A outer s H vs Q E hr hsp => ?_
  obtain ⟨xs, μ, P', hl, m, r, q, kk⟩ := hsp
  have body := h f cdv A outer s H E hr xs μ P' hl q
  refine ⟨cSs (BD P w K mg base N x st f cdv A outer s H E) (C8.fnBody st), pss_k _, ?_⟩
  refine body (L2.start N vs) H (rep_start m r) _ ⟨fun ρ' μ' σ' H' z e1 R1 => ?_, kk, fun _ _ _ _ z => z.elim, fun _ _ _ _ z => z.elim⟩
  exact kk _ μ' _ H' z e1 R1.mu .non
end
/-- the built-in names that no def of the text takes -/
structure Bl (mg : Str → Option Value) : Prop where
  «abs» : mg "abs" = none
  «len» : mg "len" = none
  «int» : mg "int" = none
  «bool» : mg "bool" = none
  «isinstance» : mg "isinstance" = none
  «tuple» : mg "tuple" = none
  «list» : mg "list" = none
  «all» : mg "all" = none
  «any» : mg "any" = none
  «range» : mg "range" = none
  «zip» : mg "zip" = none
  «enumerate» : mg "enumerate" = none
  «set» : mg "set" = none
  «repr» : mg "repr" = none
  «super» : mg "super" = none
end T12
end
section
set_option Elab.async false
set_option linter.all false
set_option maxRecDepth 100000
set_option maxHeartbeats 4000000
/-! zip over two or three things, each a list or a tuple. -/
namespace T12
open PySem PySem.Spec PyProof.Rows L2
inductive Kd where
  | l | t
def AtS (K : PySem.W.Frag) (H : Hp) (k : Kd) (a : Addr) (xs : List V) : Prop := match k with
  | .l => SqL K H a xs
  | .t => SqT K H a xs
def HsAt (h : Heap) (k : Kd) (a : Addr) (its : Array Value) : Prop := match k with
  | .l => h.IsList a its
  | .t => h.IsTuple a its
def ItAt (h : Heap) (k : Kd) (it a : Addr) (i : Nat) : Prop := match k with
  | .l => h.IsListIter it a i
  | .t => h.IsTupleIter it a i
def itObj (k : Kd) (a : Addr) : Obj := match k with
  | .l => { cls := .type "list_iterator", data := .fields #[.ref a, .int 0 0] }
  | .t => { cls := .type "tuple_iterator", data := .fields #[.ref a, .int 0 0] }
theorem kd_get {X : Cx} {pins : List (Addr × Obj)} {σ : L2.St} {H : Hp} {s : Shared} {k : Kd} {a : Addr} {xs : List V} (I : Inv X pins σ H s) (h : AtS X.K H k a xs) :
    ∃ its : List Value, Vals xs its ∧ HsAt s.heap k a its.toArray ∧ a < s.heap.objs.size := by
  cases k with
  | l =>
    obtain ⟨its, r, p, _⟩ := I.list h
    exact ⟨its, r, p.isList, p.lt⟩
  | t =>
    obtain ⟨its, r, p, _⟩ := I.tuple h
    obtain ⟨o, ho, _⟩ := id p
    exact ⟨its, r, p, Heap.lt_size ho⟩
theorem kd_inj {X : Cx} {pins : List (Addr × Obj)} {σ : L2.St} {H : Hp} {s : Shared} {k : Kd} {a : Addr} {xs ys : List V} (I : Inv X pins σ H s) (h : AtS X.K H k a xs) (h' : AtS X.K H k a ys) : xs = ys := by
  cases k with
  | l => exact I.list_inj h h'
  | t => exact I.tuple_inj h h'
theorem kd_draws {prog : Program} {w : World} {A : Around} (hh : A.handled = none) (k : Kd) (it a : Addr) (hne : a ≠ it) (items : Array Value) :
    Draws prog w A it [it, a] items.size (fun i v => items[i]? = some v) (fun i h => ItAt h k it a i ∧ HsAt h k a items) := by
  cases k with
  | l => exact Draws.list hh it a hne items
  | t => exact Draws.tuple hh it a hne items
theorem kd_begins (k : Kd) (a : Addr) (items : Array Value) : Begins (.ref a) (itObj k a) fun h => HsAt h k a items := by
  cases k with
  | l => exact begins_list a items
  | t => exact begins_tuple a items
theorem kd_it0 {h : Heap} {k : Kd} {it a : Addr} (e : h.get? it = some (itObj k a)) : ItAt h k it a 0 := by
  cases k with
  | l => exact ⟨_, e, rfl, rfl⟩
  | t => exact ⟨_, e, rfl, rfl⟩
theorem kd_obj {h : Heap} {k : Kd} {it a : Addr} {i : Nat} (x : ItAt h k it a i) : ∃ o, h.get? it = some o ∧ ∀ v, o.data ≠ .cell v := by
  cases k with
  | l =>
    obtain ⟨o, e, _, d⟩ := x
    exact ⟨o, e, fun v q => by rw [d] at q; cases q⟩
  | t =>
    obtain ⟨o, e, _, d⟩ := x
    exact ⟨o, e, fun v q => by rw [d] at q; cases q⟩
theorem kd_at {h h' : Heap} {k : Kd} {it a : Addr} {i : Nat} (x : ItAt h k it a i) (e : ∀ o, h.get? it = some o → h'.get? it = some o) : ItAt h' k it a i := by
  cases k with
  | l => exact Heap.IsListIter.at x e
  | t => exact Heap.IsTupleIter.at x e

/-! ### two -/
def J2z (K : PySem.W.Frag) (k1 k2 : Kd) (a b : Addr) : It :=
  ⟨fun i H => ∃ (xs ys : List V) (x y : V), AtS K H k1 a xs ∧ AtS K H k2 b ys ∧ xs[i]? = some x ∧ ys[i]? = some y,
    fun i H v H' => ∃ T x y, v = .ref T ∧ H T = none ∧ H' = upd H T (.tup [x, y]) ∧ (∀ xs, AtS K H k1 a xs → xs[i]? = some x) ∧ ∀ ys, AtS K H k2 b ys → ys[i]? = some y,
    fun i H => ∃ xs ys : List V, AtS K H k1 a xs ∧ AtS K H k2 b ys ∧ i = min xs.length ys.length⟩
abbrev z2fp (z TI TO i1 i2 : Addr) : List Addr := [z, TI, TO, i1, i2]
theorem turn_z2 {P : Program} {w : World} {K : PySem.W.Frag} {elts : List Expr} {kk : Nat} {tpos : Pos} {k1 k2 : Kd} {a b z TI TO i1 i2 : Addr} (D : ZipSep2 z TI TO i1 i2 [i1, a] [i2, b]) (n1 : a ≠ i1) (n2 : b ≠ i2) :
    Turn P w K (.Tuple elts kk tpos) (J2z K k1 k2 a b) (z2fp z TI TO i1 i2) z (fun i h => IsZip h z TI TO .none ∧ IsTupOf2 h TI (.ref i1) (.ref i2) ∧ (∃ a1 a2, IsTupOf2 h TO a1 a2) ∧ ItAt h k1 i1 a i ∧ ItAt h k2 i2 b i) where
  mem := by simp
  obj := fun i h st c hc => by
    obtain ⟨hz, hTI, ⟨x, y, hTO⟩, h1, h2⟩ := st
    have e' : c = z ∨ c = TI ∨ c = TO ∨ c = i1 ∨ c = i2 := by simpa using hc
    rcases e' with q | q | q | q | q
    · rw [q]; exact ⟨_, hz, fun v q => nomatch q⟩
    · rw [q]; exact ⟨_, hTI, fun v q => nomatch q⟩
    · rw [q]; exact ⟨_, hTO, fun v q => nomatch q⟩
    · rw [q]; exact kd_obj h1
    · rw [q]; exact kd_obj h2
  keep := fun i h h' st k => by
    obtain ⟨hz, hTI, ⟨x, y, hTO⟩, h1, h2⟩ := st
    exact ⟨k z (by simp) _ hz, k TI (by simp) _ hTI, ⟨x, y, k TO (by simp) _ hTO⟩, kd_at h1 fun o q => k i1 (by simp) o q, kd_at h2 fun o q => k i2 (by simp) o q⟩
  item := by
    intro X hP hw hK hc i pins s σ H E I hf st hg
    subst hP hw hK
    obtain ⟨hz, hTI, hTO, h1, h2⟩ := st
    obtain ⟨xs, ys, x, y, hqx, hqy, hx, hy⟩ := hg
    obtain ⟨its, rv, p1, l1⟩ := kd_get I hqx
    obtain ⟨its2, rv2, p2, l2⟩ := kd_get I hqy
    obtain ⟨u, hu, ru⟩ := rv.get hx
    obtain ⟨u2, hu2, ru2⟩ := rv2.get hy
    have hh : X.A.in1.handled = none := I.ok.hd hc
    have G := GoesN.zip2 (prog := X.prog) (w := X.w) (A := X.A) (elts := elts) (x1 := kk) (pos := tpos) D (kd_draws hh k1 i1 a n1 its.toArray) (kd_draws hh k2 i2 b n2 its2.toArray)
    have hi1 : i < its.toArray.size := by
      rw [List.size_toArray]; exact (List.getElem?_eq_some_iff.mp hu).1
    have hi2 : i < its2.toArray.size := by
      rw [List.size_toArray]; exact (List.getElem?_eq_some_iff.mp hu2).1
    refine G.goes i s _ E (Nat.lt_min.mpr ⟨hi1, hi2⟩) ⟨hz, hTI, hTO, ⟨h1, p1⟩, h2, p2⟩ fun v h' tk ⟨T, x', y', ev, hT, hx', hy', ht⟩ st' keep _ => ?_
    subst ev
    have ex : x' = u := by
      have q := hx'
      rw [List.getElem?_toArray, hu] at q
      exact (Option.some.inj q).symm
    have ey : y' = u2 := by
      have q := hy'
      rw [List.getElem?_toArray, hu2] at q
      exact (Option.some.inj q).symm
    subst ex ey
    have new : ObjOk X.prog X.w (upd H T (.tup [x, y])) h' T (.tup [x, y]) := ⟨by show 2 ≤ sizeLine; decide, [x', y'], .cons ru (.cons ru2 .nil), ht⟩
    have I1 : Inv X pins σ (upd H T (.tup [x, y])) { s with heap := h', toks := tk } :=
      I.turnedNew (t' := tk) (ch := z2fp z TI TO i1 i2) (fun c o hb q => keep c o (fun hm => hb (by
        have e' : c = z ∨ c = TO ∨ c = i1 ∨ c = i2 := by simpa using hm
        rcases e' with q | q | q | q <;> (rw [q]; simp))) q) hf hT new
    obtain ⟨z1, z2, z3, ⟨z4, _⟩, z5, _⟩ := st'
    refine ⟨.ref T, _, I1, rfl, ⟨T, x, y, rfl, I.hok.fresh hT, rfl, fun l hl => by rw [kd_inj I hl hqx]; exact hx, fun l hl => by rw [kd_inj I hl hqy]; exact hy⟩, ⟨z1, z2, z3, z4, z5⟩, fun c hcm => ?_⟩
    have hcn : H c = none := (hf c hcm).1
    have hlt : c < s.heap.objs.size := by
      have e' : c = z ∨ c = TI ∨ c = TO ∨ c = i1 ∨ c = i2 := by simpa using hcm
      rcases e' with q | q | q | q | q
      · rw [q]; exact Heap.lt_size hz
      · rw [q]; exact Heap.lt_size hTI
      · rw [q]; obtain ⟨_, _, e1⟩ := hTO; exact Heap.lt_size e1
      · rw [q]; obtain ⟨_, e1, _⟩ := kd_obj h1; exact Heap.lt_size e1
      · rw [q]; obtain ⟨_, e1, _⟩ := kd_obj h2; exact Heap.lt_size e1
    rw [upd_ne (Nat.ne_of_lt (Nat.lt_of_lt_of_le hlt hT))]
    exact hcn
  done := by
    intro X hP hw hK hc i pins s σ H E I hf st hg
    subst hP hw hK
    obtain ⟨hz, hTI, hTO, h1, h2⟩ := st
    obtain ⟨xs, ys, hqx, hqy, hi⟩ := hg
    obtain ⟨its, rv, p1, l1⟩ := kd_get I hqx
    obtain ⟨its2, rv2, p2, l2⟩ := kd_get I hqy
    have hh : X.A.in1.handled = none := I.ok.hd hc
    have G := GoesN.zip2 (prog := X.prog) (w := X.w) (A := X.A) (elts := elts) (x1 := kk) (pos := tpos) D (kd_draws hh k1 i1 a n1 its.toArray) (kd_draws hh k2 i2 b n2 its2.toArray)
    have hn : i = min its.toArray.size its2.toArray.size := by
      rw [List.size_toArray, List.size_toArray, ← rv.length, ← rv2.length]; exact hi
    subst hn
    refine G.stops s (fun s1 => Inv X pins σ H s1) E ⟨hz, hTI, hTO, ⟨h1, p1⟩, h2, p2⟩ fun h' tk keep _ => ?_
    exact I.turnedL (t' := tk) (ch := z2fp z TI TO i1 i2) (fun c o hb q => keep c o (fun hm => hb (by
        have e' : c = z ∨ c = TO ∨ c = i1 ∨ c = i2 := by simpa using hm
        rcases e' with q | q | q | q <;> (rw [q]; simp))) q) hf
  self := fun A i s Q E st h => wpAny_pyIter_zip st.1 h
def i2z (K : PySem.W.Frag) (ta : TA) : TI := fun σ H R => ta σ H fun vs H1 => ∃ k1 k2 a b xs ys, vs = [.ref a, .ref b] ∧ AtS K H1 k1 a xs ∧ AtS K H1 k2 b ys ∧ R (J2z K k1 k2 a b) H1
theorem pi_z2 {X : Cx} {e e2 : Expr} {ta : TA} {p pos tpos : Pos} {elts : List Expr} {kk : Nat} (hg : Gl X "zip") (hm : X.mg "zip" = none) (ha : PA X [e, e2] ta)
    (hs : starEach [e, e2] X.env = (false, eval e X.env) :: starEach [e2] X.env := by rfl) (hpl : (backTo pos (starEach [e2] X.env)).any (·.1) = false := by rfl) :
    PI X (.Tuple elts kk tpos) (.Call (.Name "zip" p) [e, e2] [] pos) (i2z X.K ta) := by
  refine ⟨fun pins s σ H R I h => ?_⟩
  refine Call_ (ld_blt I hg hm PyProof.Rows.boot_zip (PyProof.Rows.callWith_type1 (thn (ha.run pos pins s σ H _ I h) fun us s1 ⟨vs, H1, I1, r1, q1⟩ => ?_) hs hpl))
  obtain ⟨k1, k2, a, b, xs, ys, ex, hqx, hqy, q⟩ := q1
  subst ex
  obtain ⟨u1, u2, rfl, r2, r3⟩ := vals2 r1
  cases (show u1 = Value.ref a from r2)
  cases (show u2 = Value.ref b from r3)
  obtain ⟨its, rv, p1, la⟩ := kd_get I1 hqx
  obtain ⟨its2, rv2, p2, lb⟩ := kd_get I1 hqy
  refine zip_begins2 (kd_begins k1 a its.toArray) (kd_begins k2 b its2.toArray) p1 p2 fun h' hz hTI hTO h1 h2 hsz hk => wpAny_pyIter_zip hz ?_
  have I2 : Inv X pins σ H1 { s1 with heap := h' } := I1.kept (t' := s1.toks) hk
  generalize hn : s1.heap.objs.size = n at hz hTI hTO h1 h2 hsz la lb
  have ne : ∀ {i j : Nat}, i ≠ j → (n + i : Addr) ≠ n + j := fun h e => h (Nat.add_left_cancel e)
  have na : ∀ {i : Nat}, a ≠ n + i := fun e => absurd (Nat.lt_of_lt_of_le la (Nat.le_add_right n _)) (by rw [e]; exact Nat.lt_irrefl _)
  have nb : ∀ {i : Nat}, b ≠ n + i := fun e => absurd (Nat.lt_of_lt_of_le lb (Nat.le_add_right n _)) (by rw [e]; exact Nat.lt_irrefl _)
  have n0 : ∀ {i : Nat}, i ≠ 0 → (n + i : Addr) ≠ n := fun h e => h (Nat.add_left_cancel (e.trans (Nat.add_zero n).symm))
  have na0 : a ≠ n := na (i := 0)
  have nb0 : b ≠ n := nb (i := 0)
  have D : ZipSep2 (n + 4) (n + 2) (n + 3) n (n + 1) [n, a] [n + 1, b] := {
    TIz := ne (by decide)
    TOz := ne (by decide)
    TITO := ne (by decide)
    TIi1 := n0 (by decide)
    mem1 := by simp
    zf1 := by simp only [List.mem_cons, List.not_mem_nil, or_false, not_or]; exact ⟨n0 (by decide), na.symm⟩
    Tf1 := by simp only [List.mem_cons, List.not_mem_nil, or_false, not_or]; exact ⟨n0 (by decide), na.symm⟩
    TIi2 := ne (by decide)
    mem2 := by simp
    zf2 := by simp only [List.mem_cons, List.not_mem_nil, or_false, not_or]; exact ⟨ne (by decide), nb.symm⟩
    Tf2 := by simp only [List.mem_cons, List.not_mem_nil, or_false, not_or]; exact ⟨ne (by decide), nb.symm⟩
    sep1_2 := by simp only [List.mem_cons, List.not_mem_nil, or_false, not_or]; exact ⟨(n0 (by decide)).symm, nb0.symm⟩
    sep2_1 := by simp only [List.mem_cons, List.not_mem_nil, or_false, not_or]; exact ⟨n0 (by decide), na.symm⟩ }
  refine ⟨n + 4, z2fp (n + 4) (n + 2) (n + 3) n (n + 1), _, _, H1, rfl, I2, turn_z2 D na0 nb, ⟨hz, hTI, ⟨_, _, hTO⟩, kd_it0 h1, kd_it0 h2⟩, fun c hcm => ?_, q⟩
  have e' : c = n + 4 ∨ c = n + 2 ∨ c = n + 3 ∨ c = n ∨ c = n + 1 := by simpa using hcm
  have hle : s1.heap.objs.size ≤ c := by
    rw [hn]
    rcases e' with z | z | z | z | z
    · rw [z]; exact Nat.le_add_right _ _
    · rw [z]; exact Nat.le_add_right _ _
    · rw [z]; exact Nat.le_add_right _ _
    · rw [z]; exact Nat.le_refl _
    · rw [z]; exact Nat.le_add_right _ _
  exact I1.fpOk hle (I1.hok.fresh hle)

/-! ### three -/
def J3z (K : PySem.W.Frag) (k1 k2 k3 : Kd) (a b c : Addr) : It :=
  ⟨fun i H => ∃ (xs ys zs : List V) (x y v : V), AtS K H k1 a xs ∧ AtS K H k2 b ys ∧ AtS K H k3 c zs ∧ xs[i]? = some x ∧ ys[i]? = some y ∧ zs[i]? = some v,
    fun i H v H' => ∃ T x y u, v = .ref T ∧ H T = none ∧ H' = upd H T (.tup [x, y, u]) ∧ (∀ xs, AtS K H k1 a xs → xs[i]? = some x) ∧ (∀ ys, AtS K H k2 b ys → ys[i]? = some y) ∧ ∀ zs, AtS K H k3 c zs → zs[i]? = some u,
    fun i H => ∃ xs ys zs : List V, AtS K H k1 a xs ∧ AtS K H k2 b ys ∧ AtS K H k3 c zs ∧ i = min (min xs.length ys.length) zs.length⟩
abbrev z3fp (z TI TO i1 i2 i3 : Addr) : List Addr := [z, TI, TO, i1, i2, i3]
theorem turn_z3 {P : Program} {w : World} {K : PySem.W.Frag} {elts : List Expr} {kk : Nat} {tpos : Pos} {k1 k2 k3 : Kd} {a b c0 z TI TO i1 i2 i3 : Addr} (D : ZipSep3 z TI TO i1 i2 i3 [i1, a] [i2, b] [i3, c0]) (n1 : a ≠ i1) (n2 : b ≠ i2) (n3 : c0 ≠ i3) :
    Turn P w K (.Tuple elts kk tpos) (J3z K k1 k2 k3 a b c0) (z3fp z TI TO i1 i2 i3) z (fun i h => IsZip h z TI TO .none ∧ IsTupOf3 h TI (.ref i1) (.ref i2) (.ref i3) ∧ (∃ a1 a2 a3, IsTupOf3 h TO a1 a2 a3) ∧ ItAt h k1 i1 a i ∧ ItAt h k2 i2 b i ∧ ItAt h k3 i3 c0 i) where
  mem := by simp
  obj := fun i h st c hc => by
    obtain ⟨hz, hTI, ⟨x, y, v, hTO⟩, h1, h2, h3⟩ := st
    have e' : c = z ∨ c = TI ∨ c = TO ∨ c = i1 ∨ c = i2 ∨ c = i3 := by simpa using hc
    rcases e' with q | q | q | q | q | q
    · rw [q]; exact ⟨_, hz, fun v q => nomatch q⟩
    · rw [q]; exact ⟨_, hTI, fun v q => nomatch q⟩
    · rw [q]; exact ⟨_, hTO, fun v q => nomatch q⟩
    · rw [q]; exact kd_obj h1
    · rw [q]; exact kd_obj h2
    · rw [q]; exact kd_obj h3
  keep := fun i h h' st k => by
    obtain ⟨hz, hTI, ⟨x, y, v, hTO⟩, h1, h2, h3⟩ := st
    exact ⟨k z (by simp) _ hz, k TI (by simp) _ hTI, ⟨x, y, v, k TO (by simp) _ hTO⟩, kd_at h1 fun o q => k i1 (by simp) o q, kd_at h2 fun o q => k i2 (by simp) o q, kd_at h3 fun o q => k i3 (by simp) o q⟩
  item := by
    intro X hP hw hK hc i pins s σ H E I hf st hg
    subst hP hw hK
    obtain ⟨hz, hTI, hTO, h1, h2, h3⟩ := st
    obtain ⟨xs, ys, zs, x, y, v0, hqx, hqy, hqz, hx, hy, hv⟩ := hg
    obtain ⟨its, rv, p1, l1⟩ := kd_get I hqx
    obtain ⟨its2, rv2, p2, l2⟩ := kd_get I hqy
    obtain ⟨its3, rv3, p3, l3⟩ := kd_get I hqz
    obtain ⟨u, hu, ru⟩ := rv.get hx
    obtain ⟨u2, hu2, ru2⟩ := rv2.get hy
    obtain ⟨u3, hu3, ru3⟩ := rv3.get hv
    have hh : X.A.in1.handled = none := I.ok.hd hc
    have G := GoesN.zip3 (prog := X.prog) (w := X.w) (A := X.A) (elts := elts) (x1 := kk) (pos := tpos) D (kd_draws hh k1 i1 a n1 its.toArray) (kd_draws hh k2 i2 b n2 its2.toArray) (kd_draws hh k3 i3 c0 n3 its3.toArray)
    have hi1 : i < its.toArray.size := by
      rw [List.size_toArray]; exact (List.getElem?_eq_some_iff.mp hu).1
    have hi2 : i < its2.toArray.size := by
      rw [List.size_toArray]; exact (List.getElem?_eq_some_iff.mp hu2).1
    have hi3 : i < its3.toArray.size := by
      rw [List.size_toArray]; exact (List.getElem?_eq_some_iff.mp hu3).1
    refine G.goes i s _ E (Nat.lt_min.mpr ⟨Nat.lt_min.mpr ⟨hi1, hi2⟩, hi3⟩) ⟨hz, hTI, hTO, ⟨h1, p1⟩, ⟨h2, p2⟩, h3, p3⟩ fun v h' tk ⟨T, x', y', v', ev, hT, hx', hy', hv', ht⟩ st' keep _ => ?_
    subst ev
    have ex : x' = u := by
      have q := hx'
      rw [List.getElem?_toArray, hu] at q
      exact (Option.some.inj q).symm
    have ey : y' = u2 := by
      have q := hy'
      rw [List.getElem?_toArray, hu2] at q
      exact (Option.some.inj q).symm
    have ez : v' = u3 := by
      have q := hv'
      rw [List.getElem?_toArray, hu3] at q
      exact (Option.some.inj q).symm
    subst ex ey ez
    have new : ObjOk X.prog X.w (upd H T (.tup [x, y, v0])) h' T (.tup [x, y, v0]) := ⟨by show 3 ≤ sizeLine; decide, [x', y', v'], .cons ru (.cons ru2 (.cons ru3 .nil)), ht⟩
    have I1 : Inv X pins σ (upd H T (.tup [x, y, v0])) { s with heap := h', toks := tk } :=
      I.turnedNew (t' := tk) (ch := z3fp z TI TO i1 i2 i3) (fun c o hb q => keep c o (fun hm => hb (by
        have e' : c = z ∨ c = TO ∨ c = i1 ∨ c = i2 ∨ c = i3 := by simpa using hm
        rcases e' with q | q | q | q | q <;> (rw [q]; simp))) q) hf hT new
    obtain ⟨z1, z2, z3, ⟨z4, _⟩, ⟨z5, _⟩, z6, _⟩ := st'
    refine ⟨.ref T, _, I1, rfl, ⟨T, x, y, v0, rfl, I.hok.fresh hT, rfl, fun l hl => by rw [kd_inj I hl hqx]; exact hx, fun l hl => by rw [kd_inj I hl hqy]; exact hy, fun l hl => by rw [kd_inj I hl hqz]; exact hv⟩, ⟨z1, z2, z3, z4, z5, z6⟩, fun c hcm => ?_⟩
    have hcn : H c = none := (hf c hcm).1
    have hlt : c < s.heap.objs.size := by
      have e' : c = z ∨ c = TI ∨ c = TO ∨ c = i1 ∨ c = i2 ∨ c = i3 := by simpa using hcm
      rcases e' with q | q | q | q | q | q
      · rw [q]; exact Heap.lt_size hz
      · rw [q]; exact Heap.lt_size hTI
      · rw [q]; obtain ⟨_, _, _, e1⟩ := hTO; exact Heap.lt_size e1
      · rw [q]; obtain ⟨_, e1, _⟩ := kd_obj h1; exact Heap.lt_size e1
      · rw [q]; obtain ⟨_, e1, _⟩ := kd_obj h2; exact Heap.lt_size e1
      · rw [q]; obtain ⟨_, e1, _⟩ := kd_obj h3; exact Heap.lt_size e1
    rw [upd_ne (Nat.ne_of_lt (Nat.lt_of_lt_of_le hlt hT))]
    exact hcn
  done := by
    intro X hP hw hK hc i pins s σ H E I hf st hg
    subst hP hw hK
    obtain ⟨hz, hTI, hTO, h1, h2, h3⟩ := st
    obtain ⟨xs, ys, zs, hqx, hqy, hqz, hi⟩ := hg
    obtain ⟨its, rv, p1, l1⟩ := kd_get I hqx
    obtain ⟨its2, rv2, p2, l2⟩ := kd_get I hqy
    obtain ⟨its3, rv3, p3, l3⟩ := kd_get I hqz
    have hh : X.A.in1.handled = none := I.ok.hd hc
    have G := GoesN.zip3 (prog := X.prog) (w := X.w) (A := X.A) (elts := elts) (x1 := kk) (pos := tpos) D (kd_draws hh k1 i1 a n1 its.toArray) (kd_draws hh k2 i2 b n2 its2.toArray) (kd_draws hh k3 i3 c0 n3 its3.toArray)
    have hn : i = min (min its.toArray.size its2.toArray.size) its3.toArray.size := by
      rw [List.size_toArray, List.size_toArray, List.size_toArray, ← rv.length, ← rv2.length, ← rv3.length]; exact hi
    subst hn
    refine G.stops s (fun s1 => Inv X pins σ H s1) E ⟨hz, hTI, hTO, ⟨h1, p1⟩, ⟨h2, p2⟩, h3, p3⟩ fun h' tk keep _ => ?_
    exact I.turnedL (t' := tk) (ch := z3fp z TI TO i1 i2 i3) (fun c o hb q => keep c o (fun hm => hb (by
        have e' : c = z ∨ c = TO ∨ c = i1 ∨ c = i2 ∨ c = i3 := by simpa using hm
        rcases e' with q | q | q | q | q <;> (rw [q]; simp))) q) hf
  self := fun A i s Q E st h => wpAny_pyIter_zip st.1 h
def i3z (K : PySem.W.Frag) (ta : TA) : TI := fun σ H R => ta σ H fun vs H1 => ∃ k1 k2 k3 a b c xs ys zs, vs = [.ref a, .ref b, .ref c] ∧ AtS K H1 k1 a xs ∧ AtS K H1 k2 b ys ∧ AtS K H1 k3 c zs ∧ R (J3z K k1 k2 k3 a b c) H1
theorem pi_z3 {X : Cx} {e e2 e3 : Expr} {ta : TA} {p pos tpos : Pos} {elts : List Expr} {kk : Nat} (hg : Gl X "zip") (hm : X.mg "zip" = none) (ha : PA X [e, e2, e3] ta)
    (hs : starEach [e, e2, e3] X.env = (false, eval e X.env) :: starEach [e2, e3] X.env := by rfl) (hpl : (backTo pos (starEach [e2, e3] X.env)).any (·.1) = false := by rfl) :
    PI X (.Tuple elts kk tpos) (.Call (.Name "zip" p) [e, e2, e3] [] pos) (i3z X.K ta) := by
  refine ⟨fun pins s σ H R I h => ?_⟩
  refine Call_ (ld_blt I hg hm PyProof.Rows.boot_zip (PyProof.Rows.callWith_type1 (thn (ha.run pos pins s σ H _ I h) fun us s1 ⟨vs, H1, I1, r1, q1⟩ => ?_) hs hpl))
  obtain ⟨k1, k2, k3, a, b, c0, xs, ys, zs, ex, hqx, hqy, hqz, q⟩ := q1
  subst ex
  obtain ⟨u1, u2, u3, rfl, r2, r3, r4⟩ : ∃ u1 u2 u3, us = [u1, u2, u3] ∧ RelV (.ref a) u1 ∧ RelV (.ref b) u2 ∧ RelV (.ref c0) u3 := by
    cases r1 with
    | cons x1 x2 =>
      cases x2 with
      | cons x3 x4 =>
        cases x4 with
        | cons x5 x6 => cases x6; exact ⟨_, _, _, rfl, x1, x3, x5⟩
  cases (show u1 = Value.ref a from r2)
  cases (show u2 = Value.ref b from r3)
  cases (show u3 = Value.ref c0 from r4)
  obtain ⟨its, rv, p1, la⟩ := kd_get I1 hqx
  obtain ⟨its2, rv2, p2, lb⟩ := kd_get I1 hqy
  obtain ⟨its3, rv3, p3, lc⟩ := kd_get I1 hqz
  refine zip_begins3 (kd_begins k1 a its.toArray) (kd_begins k2 b its2.toArray) (kd_begins k3 c0 its3.toArray) p1 p2 p3 fun h' hz hTI hTO h1 h2 h3 hsz hk => wpAny_pyIter_zip hz ?_
  have I2 : Inv X pins σ H1 { s1 with heap := h' } := I1.kept (t' := s1.toks) hk
  generalize hn : s1.heap.objs.size = n at hz hTI hTO h1 h2 h3 hsz la lb lc
  have ne : ∀ {i j : Nat}, i ≠ j → (n + i : Addr) ≠ n + j := fun h e => h (Nat.add_left_cancel e)
  have na : ∀ {i : Nat}, a ≠ n + i := fun e => absurd (Nat.lt_of_lt_of_le la (Nat.le_add_right n _)) (by rw [e]; exact Nat.lt_irrefl _)
  have nb : ∀ {i : Nat}, b ≠ n + i := fun e => absurd (Nat.lt_of_lt_of_le lb (Nat.le_add_right n _)) (by rw [e]; exact Nat.lt_irrefl _)
  have nc : ∀ {i : Nat}, c0 ≠ n + i := fun e => absurd (Nat.lt_of_lt_of_le lc (Nat.le_add_right n _)) (by rw [e]; exact Nat.lt_irrefl _)
  have n0 : ∀ {i : Nat}, i ≠ 0 → (n + i : Addr) ≠ n := fun h e => h (Nat.add_left_cancel (e.trans (Nat.add_zero n).symm))
  have na0 : a ≠ n := na (i := 0)
  have nb0 : b ≠ n := nb (i := 0)
  have nc0 : c0 ≠ n := nc (i := 0)
  have two : ∀ {x y u : Addr}, x ≠ y → x ≠ u → x ∉ [y, u] := fun h1 h2 hm => by
    simp only [List.mem_cons, List.not_mem_nil, or_false] at hm
    exact hm.elim h1 h2
  have D : ZipSep3 (n + 5) (n + 3) (n + 4) n (n + 1) (n + 2) [n, a] [n + 1, b] [n + 2, c0] := {
    TIz := ne (by decide)
    TOz := ne (by decide)
    TITO := ne (by decide)
    TIi1 := n0 (by decide)
    mem1 := by simp
    zf1 := two (n0 (by decide)) na.symm
    Tf1 := two (n0 (by decide)) na.symm
    TIi2 := ne (by decide)
    mem2 := by simp
    zf2 := two (ne (by decide)) nb.symm
    Tf2 := two (ne (by decide)) nb.symm
    TIi3 := ne (by decide)
    mem3 := by simp
    zf3 := two (ne (by decide)) nc.symm
    Tf3 := two (ne (by decide)) nc.symm
    sep1_2 := two (n0 (by decide)).symm nb0.symm
    sep1_3 := two (n0 (by decide)).symm nc0.symm
    sep2_1 := two (n0 (by decide)) na.symm
    sep2_3 := two (ne (by decide)) nc.symm
    sep3_1 := two (n0 (by decide)) na.symm
    sep3_2 := two (ne (by decide)) nb.symm }
  refine ⟨n + 5, z3fp (n + 5) (n + 3) (n + 4) n (n + 1) (n + 2), _, _, H1, rfl, I2, turn_z3 D na0 nb nc, ⟨hz, hTI, ⟨_, _, _, hTO⟩, kd_it0 h1, kd_it0 h2, kd_it0 h3⟩, fun c hcm => ?_, q⟩
  have e' : c = n + 5 ∨ c = n + 3 ∨ c = n + 4 ∨ c = n ∨ c = n + 1 ∨ c = n + 2 := by simpa using hcm
  have hle : s1.heap.objs.size ≤ c := by
    rw [hn]
    rcases e' with z | z | z | z | z | z
    · rw [z]; exact Nat.le_add_right _ _
    · rw [z]; exact Nat.le_add_right _ _
    · rw [z]; exact Nat.le_add_right _ _
    · rw [z]; exact Nat.le_refl _
    · rw [z]; exact Nat.le_add_right _ _
    · rw [z]; exact Nat.le_add_right _ _
  exact I1.fpOk hle (I1.hok.fresh hle)

/-! ### over data -/
def seqD : PyData → Option (Kd × List PyData)
  | .list ds => some (.l, ds)
  | .tuple ds => some (.t, ds)
  | _ => none
theorem seq_v {G : Hp} {v : V} {d : PyData} {k : Kd} {ds : List PyData} (r : Dv G v d) (h : seqD d = some (k, ds)) : ∃ a xs, v = .ref a ∧ DvAll G xs ds ∧ ∀ K H μ, Ex G (hid H μ) → AtS K H k a xs := by
  cases r with
  | lst h1 h2 => cases h; exact ⟨_, _, rfl, h2, fun K H μ e => .inl (Ex.rd hid_le (e.rd h1))⟩
  | tup h1 h2 => cases h; exact ⟨_, _, rfl, h2, fun K H μ e => SqT.of (hid_le _ _ (e _ _ h1))⟩
  | _ => cases h
def zip2D (a b : List PyData) : List PyData := List.zipWith (fun x y => .tuple [x, y]) a b
def zip3D (a b c : List PyData) : List PyData := List.zipWith (fun x y => match y with | .tuple [u, v] => .tuple [x, u, v] | _ => .none) a (zip2D b c)
section
variable {X : Cx} {ρ : Sl} {μ : Mu} {R : List PyData → Mu → Prop} {e e2 e3 : Expr} {p pos tpos : Pos} {elts : List Expr} {kk : Nat}
theorem di_zip2 (hm : X.mg "zip" = none) (h : DE X e ρ μ fun x m => DE X e2 ρ m fun y m' => ∃ d f k1 k2 ds fs, x = .d d ∧ y = .d f ∧ seqD d = some (k1, ds) ∧ seqD f = some (k2, fs) ∧ R (zip2D ds fs) m') (hg : Gl X "zip" := by rfl)
    (hs : starEach [e, e2] X.env = (false, eval e X.env) :: starEach [e2] X.env := by rfl) (hpl : (backTo pos (starEach [e2] X.env)).any (·.1) = false := by rfl)
    (h1 : starEach (e :: [e2]) X.env = (false, eval e X.env) :: starEach [e2] X.env := by rfl) (h2 : starEach (e2 :: []) X.env = (false, eval e2 X.env) :: starEach [] X.env := by rfl) :
    DI X (.Tuple elts kk tpos) (.Call (.Name "zip" p) [e, e2] [] pos) ρ μ R := fun σ H RR Rc k =>
  cI_of (pi_z2 hg hm (pa_cons (pe_k e) (pa_cons (pe_k e2) pa_nil h2) h1) hs hpl) (h σ H RR _ fun x m v H1 q1 e1 m1 r1 => q1 σ H1 (RR.step e1 m1) _ fun y m' u H2 ⟨d, f, k1, k2, ds, fs, ex, ey, hd, hf, q⟩ e2' m2 r2 => by
    subst ex ey
    obtain ⟨a, xs, rfl, dx, ax⟩ := seq_v (Dv.mono e2' _ _ r1) hd
    obtain ⟨b, ys, rfl, dy, ay⟩ := seq_v r2 hf
    refine ⟨k1, k2, a, b, xs, ys, rfl, ax _ _ m' (Ex.refl _), ay _ _ m' (Ex.refl _), k _ _ m' H2 q (e1.trans e2') m2 fun i H' μ' mk ex => ⟨fun z hz => ?_, fun hi => ?_⟩⟩
    · have hzw := hz
      unfold zip2D at hzw
      rw [List.getElem?_zipWith] at hzw
      cases q1 : ds[i]? with
      | none => rw [q1] at hzw; cases hzw
      | some d1 =>
        cases q2 : fs[i]? with
        | none => rw [q1, q2] at hzw; cases hzw
        | some f1 =>
          rw [q1, q2] at hzw
          obtain rfl := Option.some.inj hzw
          obtain ⟨v1, g1, g2⟩ := dx.get q1
          obtain ⟨v2, g3, g4⟩ := dy.get q2
          refine ⟨⟨xs, ys, v1, v2, ax _ H' μ' ex, ay _ H' μ' ex, g1, g3⟩, fun y H'' ⟨T, x', y', ev, hT, eh, hx', hy'⟩ => ?_⟩
          subst ev eh
          have e5 := (hx' xs (ax _ H' μ' ex)).symm.trans g1
          have e6 := (hy' ys (ay _ H' μ' ex)).symm.trans g3
          cases e5; cases e6
          exact ⟨mk.new hT, ex_new hT, .tup (hid_new mk hT) (.cons (Dv.mono (ex.trans (ex_new hT)) _ _ g2) (.cons (Dv.mono (ex.trans (ex_new hT)) _ _ g4) .nil))⟩
    · refine ⟨xs, ys, ax _ H' μ' ex, ay _ H' μ' ex, ?_⟩
      rw [hi, dx.len, dy.len]
      unfold zip2D
      rw [List.length_zipWith])
theorem di_zip3 (hm : X.mg "zip" = none) (h : DE X e ρ μ fun x m => DE X e2 ρ m fun y m' => DE X e3 ρ m' fun z m'' => ∃ d f g k1 k2 k3 ds fs gs, x = .d d ∧ y = .d f ∧ z = .d g ∧ seqD d = some (k1, ds) ∧ seqD f = some (k2, fs) ∧ seqD g = some (k3, gs) ∧ R (zip3D ds fs gs) m'') (hg : Gl X "zip" := by rfl)
    (hs : starEach [e, e2, e3] X.env = (false, eval e X.env) :: starEach [e2, e3] X.env := by rfl) (hpl : (backTo pos (starEach [e2, e3] X.env)).any (·.1) = false := by rfl)
    (h1 : starEach (e :: [e2, e3]) X.env = (false, eval e X.env) :: starEach [e2, e3] X.env := by rfl) (h2 : starEach (e2 :: [e3]) X.env = (false, eval e2 X.env) :: starEach [e3] X.env := by rfl) (h3 : starEach (e3 :: []) X.env = (false, eval e3 X.env) :: starEach [] X.env := by rfl) :
    DI X (.Tuple elts kk tpos) (.Call (.Name "zip" p) [e, e2, e3] [] pos) ρ μ R := fun σ H RR Rc k =>
  cI_of (pi_z3 hg hm (pa_cons (pe_k e) (pa_cons (pe_k e2) (pa_cons (pe_k e3) pa_nil h3) h2) h1) hs hpl) (h σ H RR _ fun x m v H1 q1 e1 m1 r1 => q1 σ H1 (RR.step e1 m1) _ fun y m' u H2 q2 e2' m2 r2 => q2 σ H2 (RR.step (e1.trans e2') m2) _ fun z m'' t H3 ⟨d, f, g, k1, k2, k3, ds, fs, gs, ex, ey, ez, hd, hf, hgg, q⟩ e3' m3 r3 => by
    subst ex ey ez
    obtain ⟨a, xs, rfl, dx, ax⟩ := seq_v (Dv.mono (e2'.trans e3') _ _ r1) hd
    obtain ⟨b, ys, rfl, dy, ay⟩ := seq_v (Dv.mono e3' _ _ r2) hf
    obtain ⟨c, zs, rfl, dz, az⟩ := seq_v r3 hgg
    refine ⟨k1, k2, k3, a, b, c, xs, ys, zs, rfl, ax _ _ m'' (Ex.refl _), ay _ _ m'' (Ex.refl _), az _ _ m'' (Ex.refl _), k _ _ m'' H3 q ((e1.trans e2').trans e3') m3 fun i H' μ' mk ex => ⟨fun z hz => ?_, fun hi => ?_⟩⟩
    · have hzw := hz
      unfold zip3D zip2D at hzw
      rw [List.getElem?_zipWith, List.getElem?_zipWith] at hzw
      cases q1 : ds[i]? with
      | none => rw [q1] at hzw; cases hzw
      | some d1 =>
        cases q2 : fs[i]? with
        | none => rw [q1, q2] at hzw; cases hzw
        | some f1 =>
          cases q3 : gs[i]? with
          | none => rw [q1, q2, q3] at hzw; cases hzw
          | some g9 =>
            rw [q1, q2, q3] at hzw
            obtain rfl := Option.some.inj hzw
            obtain ⟨v1, g1, g2⟩ := dx.get q1
            obtain ⟨v2, g3, g4⟩ := dy.get q2
            obtain ⟨v3, g5, g6⟩ := dz.get q3
            refine ⟨⟨xs, ys, zs, v1, v2, v3, ax _ H' μ' ex, ay _ H' μ' ex, az _ H' μ' ex, g1, g3, g5⟩, fun y H'' ⟨T, x', y', z', ev, hT, eh, hx', hy', hz'⟩ => ?_⟩
            subst ev eh
            have e5 := (hx' xs (ax _ H' μ' ex)).symm.trans g1
            have e6 := (hy' ys (ay _ H' μ' ex)).symm.trans g3
            have e7 := (hz' zs (az _ H' μ' ex)).symm.trans g5
            cases e5; cases e6; cases e7
            exact ⟨mk.new hT, ex_new hT, .tup (hid_new mk hT) (.cons (Dv.mono (ex.trans (ex_new hT)) _ _ g2) (.cons (Dv.mono (ex.trans (ex_new hT)) _ _ g4) (.cons (Dv.mono (ex.trans (ex_new hT)) _ _ g6) .nil)))⟩
    · refine ⟨xs, ys, zs, ax _ H' μ' ex, ay _ H' μ' ex, az _ H' μ' ex, ?_⟩
      rw [hi, dx.len, dy.len, dz.len]
      unfold zip3D zip2D
      rw [List.length_zipWith, List.length_zipWith, Nat.min_assoc])
/-- the places and the items -/
def enumD (ds : List PyData) : List PyData := List.zipWith (fun i d => .tuple [.int ((i : Nat) : Int), d]) (List.range ds.length) ds
theorem di_enum (hm : X.mg "enumerate" = none) (h : DE X e ρ μ fun x m => ∃ ds, x = .d (.list ds) ∧ R (enumD ds) m) (hg : Gl X "enumerate" := by rfl) (hs : starEach [e] X.env = [(false, eval e X.env)] := by rfl) (h1 : starEach (e :: []) X.env = (false, eval e X.env) :: starEach [] X.env := by rfl) :
    DI X (.Tuple elts kk tpos) (.Call (.Name "enumerate" p) [e] [] pos) ρ μ R := fun σ H RR Rc k =>
  cI_of (pi_enum hg hm (pa_cons (pe_k e) pa_nil h1) hs) (h σ H RR _ fun x m v H1 ⟨ds, ex, q⟩ e1 m1 r1 => by
    subst ex
    obtain ⟨a, xs, rfl, dx, ax⟩ := seq_v r1 (k := .l) rfl
    refine ⟨a, xs, rfl, ax _ _ m (Ex.refl _), k _ _ m H1 q e1 m1 fun i H' μ' mk ex => ⟨fun z hz => ?_, fun hi => ?_⟩⟩
    · have hzw := hz
      unfold enumD at hzw
      rw [List.getElem?_zipWith] at hzw
      by_cases hi : i < ds.length
      · rw [List.getElem?_range hi, List.getElem?_eq_getElem hi] at hzw
        obtain rfl := Option.some.inj hzw
        obtain ⟨v1, g1, g2⟩ := dx.get (List.getElem?_eq_getElem hi)
        refine ⟨⟨xs, v1, ax _ H' μ' ex, g1⟩, fun y H'' ⟨T, x', ev, hT, eh, hx'⟩ => ?_⟩
        subst ev eh
        have e5 := (hx' xs (ax _ H' μ' ex)).symm.trans g1
        cases e5
        exact ⟨mk.new hT, ex_new hT, .tup (hid_new mk hT) (.cons (.int _) (.cons (Dv.mono (ex.trans (ex_new hT)) _ _ g2) .nil))⟩
      · rw [List.getElem?_eq_none (by rw [List.length_range]; omega)] at hzw
        cases hzw
    · refine ⟨xs, ax _ H' μ' ex, ?_⟩
      rw [hi, dx.len]
      unfold enumD
      rw [List.length_zipWith, List.length_range]
      omega)
end
end T12
end
section
set_option Elab.async false
set_option linter.all false
set_option maxRecDepth 100000
set_option maxHeartbeats 2000000
namespace T12
open PySem PySem.Spec PyProof.Rows L2
/-- a name in slot i -/
theorem dv {X : Cx} {ρ : Sl} {μ : Mu} {Q : SV → Mu → Prop} {x : Str} {pos : Pos} {y : SV} (i : Nat) (q : Q y μ) (h : ρ[i]? = some (some y) := by rfl) (hN : X.N[i]? = some x := by rfl) (hv : Vis X.env.scope x := by first | exact Or.inl rfl | exact Or.inr (Or.inl rfl) | exact Or.inr (Or.inr rfl))
    (hd : (x == ("__debug__" : Str)) = false := by decide) (hcd : (x == ("__classdict__" : Str)) = false := by decide) : DE X (.Name x pos) ρ μ Q := de_var h q hN hv hd hcd
section
variable {P : Program} {w : World} {K : PySem.W.Frag} {mg : Str → Option Value} {base : Heap}
/-! is_integer -/
abbrev sIsInteger : Stmt := topS 10
def isInt : SV → Option Bool
  | .d (.int _) => some true
  | .d (.dict _) => none
  | .d _ => some false
  | .m _ => some false
  | .t T => if T = "dict" ∨ T = "list" then some false else none
  | .pr _ => none
  | .o _ _ => none
def spIsInteger : DSp := fun xs μ Q => ∃ x b, xs = [x] ∧ isInt x = some b ∧ known μ x ∧ Q (.d (.bool b)) μ
theorem scIsInteger : FnScope ["value"] ["value"] (C8.fnScope sIsInteger) := ⟨rfl, rfl, rfl, by decide +kernel, rfl, by decide +kernel, by decide +kernel⟩
theorem tyInt {x : SV} {b : Bool} (h : isInt x = some b) : ∃ T, tyN x = some T ∧ ((kitB T "int" = some true ∧ kitB T "bool" = some false ∧ b = true) ∨ (kitB T "int" = some false ∧ b = false) ∨ (kitB T "int" = some true ∧ kitB T "bool" = some true ∧ b = false)) := by
  cases x with
  | d p => cases p <;> cases h <;> refine ⟨_, rfl, ?_⟩ <;> first | exact .inl ⟨by decide +kernel, by decide +kernel, rfl⟩ | exact .inr (.inl ⟨by decide +kernel, rfl⟩) | exact .inr (.inr ⟨by decide +kernel, by decide +kernel, rfl⟩)
  | m a => cases h; exact ⟨_, rfl, .inr (.inl ⟨by decide +kernel, rfl⟩)⟩
  | o C fs => cases h
  | t T =>
    have h' : (if T = "dict" ∨ T = "list" then some false else none) = some b := h
    by_cases hT : T = "dict" ∨ T = "list"
    · rw [if_pos hT] at h'
      cases h'
      rcases hT with rfl | rfl <;> exact ⟨_, rfl, .inr (.inl ⟨by decide +kernel, rfl⟩)⟩
    · rw [if_neg hT] at h'; cases h'
  | pr _ => cases h
theorem ok_is_integer (T : Tp K mg "is_integer" sIsInteger ["value"] []) (B : Bl mg) : C8.Cal P w K mg base 1 "is_integer" (spD K 1 spIsInteger) [] := by
  refine d_ok (k := 0) T .nil scIsInteger rfl fun f cdv A outer s H E hr xs μ Q hl ⟨x, b, ex, hx, hk, q⟩ => ?_
  subst ex
  obtain ⟨t, h1, h2⟩ := tyInt hx
  refine dss_cons (ds_ret (de_and (de_isT (n := "int") B.isinstance B.int (by decide +kernel) (dv 0 ?_))))
  rcases h2 with ⟨h2, h3, rfl⟩ | ⟨h2, rfl⟩ | ⟨h2, h3, rfl⟩
  · exact ⟨t, true, h1, hk, h2, true, rfl, de_one (de_not (de_isT (n := "bool") B.isinstance B.bool (by decide +kernel) (dv 0 ⟨t, false, h1, hk, h3, false, rfl, q⟩)))⟩
  · exact ⟨t, false, h1, hk, h2, false, rfl, q⟩
  · exact ⟨t, true, h1, hk, h2, true, rfl, de_one (de_not (de_isT (n := "bool") B.isinstance B.bool (by decide +kernel) (dv 0 ⟨t, true, h1, hk, h3, true, rfl, q⟩)))⟩
/-! halves -/
abbrev sHalves : Stmt := topS 17
theorem scHalves : FnScope ["number"] ["number"] (C8.fnScope sHalves) := ⟨rfl, rfl, rfl, by decide +kernel, rfl, by decide +kernel, by decide +kernel⟩
def spHalves : DSp := fun xs μ Q => ∃ q, xs = [.d (numD q)] ∧ Q (.d (.tuple [.int q.num, .int (q.den : Nat)])) μ
theorem ok_halves (T : Tp K mg "halves" sHalves ["number"] []) (B : Bl mg) (c_is_integer : C8.Cal P w K mg base 1 "is_integer" (spD K 1 spIsInteger) []) : C8.Cal P w K mg base 2 "halves" (spD K 1 spHalves) [] := by
  refine d_ok (k := 1) T .nil scHalves rfl fun f cdv A outer s H E hr xs μ Q hl ⟨q, ex, hq⟩ => ?_
  subst ex
  refine dss_cons (ds_ret (de_if (dt_val (de_call c_is_integer hr (by decide) (da_cons (dv 0 (da_nil ⟨rfl, ?_⟩)))))))
  by_cases c : q.den = 1
  · rw [numD_one c]
    refine ⟨_, true, rfl, rfl, trivial, true, rfl, ?_⟩
    refine iteT ?_
    refine de_tup (da_cons (dv 0 (da_cons (de_int (da_nil ⟨_, rfl, rfl, ?_⟩)))))
    rw [c] at hq
    exact hq
  · rw [numD_two c]
    refine ⟨_, false, rfl, rfl, trivial, false, rfl, ?_⟩
    refine iteF ?_
    refine de_tup (da_cons (de_ix (dv 0 (de_int ⟨_, _, _, rfl, rfl, rfl, ?_⟩))))
    refine da_cons (de_ix (dv 0 (de_int ⟨_, _, _, rfl, rfl, rfl, ?_⟩)))
    exact da_nil ⟨_, rfl, rfl, hq⟩
end
end T12
end
section
set_option Elab.async false
set_option linter.all false
set_option maxRecDepth 100000
set_option maxHeartbeats 2000000
set_option exponentiation.threshold 5000
namespace T12
open PySem PySem.Spec PyProof.Rows L2
section
variable {P : Program} {w : World} {K : PySem.W.Frag} {mg : Str → Option Value} {base : Heap}
/-! common -/
abbrev sCommon : Stmt := topS 18
theorem scCommon : FnScope ["one", "other"] ["one", "other"] (C8.fnScope sCommon) := ⟨rfl, rfl, rfl, by decide +kernel, rfl, by decide +kernel, by decide +kernel⟩
def spCommon : DSp := fun xs μ Q => ∃ (a b : Int), xs = [.d (.int a), .d (.int b)] ∧ Q (.d (.int (b.natAbs.gcd a.natAbs : Nat))) μ
theorem absI (i : Int) : (if i < 0 then -i else i) = (i.natAbs : Int) := by omega
theorem decT {c : Prop} [Decidable c] : decide c = true ↔ c := decide_eq_true_iff
theorem ok_common (T : Tp K mg "common" sCommon ["one", "other"] []) (B : Bl mg) : C8.Cal P w K mg base 1 "common" (spD K 2 spCommon) [] := by
  refine d_ok (k := 0) T .nil scCommon rfl fun f cdv A outer s H E hr xs μ Q hl ⟨a, b, ex, hq⟩ => ?_
  subst ex
  refine dss_cons (ds_par (i := 0) (j := 1) scCommon.nd (de_abs B.abs (dv 0 ⟨_, rfl, ?_⟩)))
  refine de_abs B.abs (dv 1 ⟨_, rfl, ?_⟩)
  rw [absI, absI]
  refine dss_cons (ds_while .never (fun n ρ m => m = μ ∧ ∃ u v : Nat, ρ = [some (.d (.int (u : Nat))), some (.d (.int (v : Nat)))] ∧ v = n ∧ v.gcd u = b.natAbs.gcd a.natAbs) b.natAbs ⟨rfl, a.natAbs, b.natAbs, rfl, rfl, rfl⟩ ?_)
  rintro n ρ' μ' ⟨rfl, u, v, rfl, rfl, hg⟩
  refine dt_cmp (dc_gt (dv 1 (de_int ⟨_, _, rfl, rfl, _, rfl, ?_⟩)))
  refine ite2 (fun hc => ?_) (fun hc => ?_)
  · have hv : 0 < v := by simpa using hc
    refine dss_cons (ds_par (i := 0) (j := 1) scCommon.nd (dv 1 (de_mod (dv 0 (dv 1 ⟨_, _, rfl, rfl, Int.natCast_pos.mpr hv, ?_⟩)))))
    refine dss_nil ⟨u % v, Nat.mod_lt _ hv, rfl, v, u % v, by simp, rfl, ?_⟩
    rw [← hg, Nat.gcd_comm v u, Nat.gcd_comm (u % v) v, Nat.gcd_comm u v]
    rw [Nat.gcd_comm v (u % v), ← Nat.gcd_rec]
  · have hv : v = 0 := by
      have : ¬ (0 < v) := by simpa using hc
      omega
    subst hv
    refine dss_cons (ds_ret (dv 0 ?_))
    rw [Nat.gcd_zero_left] at hg
    rw [hg]
    exact hq
/-! lowest_in -/
abbrev sLowestIn : Stmt := topS 19
theorem scLowestIn : FnScope ["above", "under", "by"] ["above", "under"] (C8.fnScope sLowestIn) := ⟨rfl, rfl, rfl, by decide +kernel, rfl, by decide +kernel, by decide +kernel⟩
def spLowestIn : DSp := fun xs μ Q => ∃ (a : Int) (b : Nat), xs = [.d (.int a), .d (.int b)] ∧ 0 < b ∧ b < 2 ^ 4000 ∧ Q (.d (numD (mkRat a b))) μ
theorem div_ok {b g : Nat} (h : 0 < g) (hg : g ≤ b) (hb : b < 2 ^ 4000) {i : Int} : CDivW i (g : Nat) :=
  wide_div (by omega) (by rw [Int.natAbs_natCast]; exact Nat.lt_of_le_of_lt hg hb) (by decide) (by decide)
theorem ok_lowest_in (T : Tp K mg "lowest_in" sLowestIn ["above", "under"] []) (B : Bl mg) (c_common : C8.Cal P w K mg base 1 "common" (spD K 2 spCommon) []) : C8.Cal P w K mg base 2 "lowest_in" (spD K 2 spLowestIn) [] := by
  refine d_ok (k := 1) T .nil scLowestIn rfl fun f cdv A outer s H E hr xs μ Q hl ⟨a, b, ex, hb, hlim, hq⟩ => ?_
  subst ex
  have g0 := gcdI_pos (a := a) hb
  have g1 := gcdI_le (a := a) hb
  refine dss_cons (ds_set (i := 2) scLowestIn.nd (de_if (dt_cmp (dc_gt (dv 1 (de_int ⟨_, _, rfl, rfl, _, rfl, ?_⟩))))))
  rw [show decide ((0 : Int) < (b : Int)) = true by simpa using hb]
  refine iteT ?_
  refine de_call c_common hr (by decide) (da_cons (dv 0 (da_cons (dv 1 (da_nil ⟨rfl, _, _, rfl, ?_⟩)))))
  rw [Int.natAbs_natCast]
  show DSs _ _ [some _, some _, some (.d (.int (gcdI a b : Nat)))] _ _
  refine dss_cons (ds_ret (de_if (dt_cmp (dc_eqI (de_div (dv 1 (dv 2 ⟨_, _, rfl, rfl, div_ok g0 g1 hlim, ?_⟩)))))))
  refine de_int ⟨_, _, rfl, rfl, _, rfl, ?_⟩
  rw [numD_mk hb] at hq
  refine ite2 (fun hc => ?_) (fun hc => ?_)
  · rw [if_pos (by simpa using hc)] at hq
    exact de_div (dv 0 (dv 2 ⟨_, _, rfl, rfl, div_ok g0 g1 hlim, hq⟩))
  · rw [if_neg (by simpa using hc)] at hq
    exact de_tup (da_cons (de_div (dv 0 (dv 2 ⟨_, _, rfl, rfl, div_ok g0 g1 hlim, da_cons (de_div (dv 1 (dv 2 ⟨_, _, rfl, rfl, div_ok g0 g1 hlim, da_nil ⟨_, rfl, rfl, hq⟩⟩)))⟩))))
/-! plus_in, times_in, minus_in, below_in -/
theorem mul_ok {i j : Int} (hi : i.natAbs < 2 ^ 2000) (hj : j.natAbs < 2 ^ 2000) : CMulW i j := wide_mul hi hj (by decide) (by decide) (by decide)
theorem nat2000 {n : Nat} (h : n < 2 ^ 1000) : ((n : Nat) : Int).natAbs < 2 ^ 2000 := by
  rw [Int.natAbs_natCast]
  exact Nat.lt_trans h (Nat.pow_lt_pow_right (by decide) (by decide))
theorem num2000 {i : Int} (h : i.natAbs < 2 ^ 1000) : i.natAbs < 2 ^ 2000 := Nat.lt_trans h (Nat.pow_lt_pow_right (by decide) (by decide))
theorem lt4000 {n : Nat} (h : n < 2 ^ 2000) : n < 2 ^ 4000 := Nat.lt_trans h (Nat.pow_lt_pow_right (by decide) (by decide))
abbrev spBin (f : Rat → Rat → Rat) : DSp := fun xs μ Q => ∃ p q, xs = [.d (numD p), .d (numD q)] ∧ Sm p ∧ Sm q ∧ Q (.d (numD (f p q))) μ
abbrev sPlusIn : Stmt := topS 20
theorem scPlusIn : FnScope ["one", "other", "a", "b", "c", "d"] ["one", "other"] (C8.fnScope sPlusIn) := ⟨rfl, rfl, rfl, by decide +kernel, rfl, by decide +kernel, by decide +kernel⟩
def spPlusIn : DSp := spBin (· + ·)
theorem ok_plus_in (T : Tp K mg "plus_in" sPlusIn ["one", "other"] []) (c_halves : C8.Cal P w K mg base 2 "halves" (spD K 1 spHalves) []) (c_lowest_in : C8.Cal P w K mg base 2 "lowest_in" (spD K 2 spLowestIn) []) : C8.Cal P w K mg base 3 "plus_in" (spD K 2 spPlusIn) [] := by
  refine d_ok (k := 2) T .nil scPlusIn rfl fun f cdv A outer s H E hr xs μ Q hl ⟨p, q, ex, sp, sq, hq⟩ => ?_
  subst ex
  refine dss_cons (ds_asg (de_tup (da_cons (de_call c_halves hr (by decide) (da_cons (dv 0 (da_nil ⟨rfl, p, rfl, ?_⟩)))))))
  refine da_cons (de_call c_halves hr (by decide) (da_cons (dv 1 (da_nil ⟨rfl, q, rfl, da_nil ⟨_, rfl, rfl, ?_⟩⟩))))
  refine dg_tup rfl ⟨_, rfl, rfl, dgs_cons (dg_tup rfl ⟨_, rfl, rfl, dgs_cons (dg_name (i := 2) scPlusIn.nd (dgs_cons (dg_name (i := 3) scPlusIn.nd (dgs_nil ?_))))⟩)⟩
  refine dgs_cons (dg_tup rfl ⟨_, rfl, rfl, dgs_cons (dg_name (i := 4) scPlusIn.nd (dgs_cons (dg_name (i := 5) scPlusIn.nd (dgs_nil (dgs_nil ?_)))))⟩)
  refine dss_cons (ds_ret (de_call c_lowest_in hr (by decide) (da_cons (de_add (de_mul (dv 2 (dv 5 ⟨_, _, rfl, rfl, mul_ok (num2000 sp.1) (nat2000 sq.2), ?_⟩)))))))
  refine de_mul (dv 4 (dv 3 ⟨_, _, rfl, rfl, mul_ok (num2000 sq.1) (nat2000 sp.2), _, _, rfl, rfl, ?_⟩))
  refine da_cons (de_mul (dv 3 (dv 5 ⟨_, _, rfl, rfl, mul_ok (nat2000 sp.2) (nat2000 sq.2), da_nil ⟨rfl, _, p.den * q.den, by rw [Int.natCast_mul], Nat.mul_pos p.den_pos q.den_pos, lt4000 (sp.dens sq), ?_⟩⟩)))
  rw [← add_mk]
  exact hq
abbrev sTimesIn : Stmt := topS 21
theorem scTimesIn : FnScope ["one", "other", "a", "b", "c", "d"] ["one", "other"] (C8.fnScope sTimesIn) := ⟨rfl, rfl, rfl, by decide +kernel, rfl, by decide +kernel, by decide +kernel⟩
def spTimesIn : DSp := spBin (· * ·)
theorem ok_times_in (T : Tp K mg "times_in" sTimesIn ["one", "other"] []) (c_halves : C8.Cal P w K mg base 2 "halves" (spD K 1 spHalves) []) (c_lowest_in : C8.Cal P w K mg base 2 "lowest_in" (spD K 2 spLowestIn) []) : C8.Cal P w K mg base 3 "times_in" (spD K 2 spTimesIn) [] := by
  refine d_ok (k := 2) T .nil scTimesIn rfl fun f cdv A outer s H E hr xs μ Q hl ⟨p, q, ex, sp, sq, hq⟩ => ?_
  subst ex
  refine dss_cons (ds_asg (de_tup (da_cons (de_call c_halves hr (by decide) (da_cons (dv 0 (da_nil ⟨rfl, p, rfl, ?_⟩)))))))
  refine da_cons (de_call c_halves hr (by decide) (da_cons (dv 1 (da_nil ⟨rfl, q, rfl, da_nil ⟨_, rfl, rfl, ?_⟩⟩))))
  refine dg_tup rfl ⟨_, rfl, rfl, dgs_cons (dg_tup rfl ⟨_, rfl, rfl, dgs_cons (dg_name (i := 2) scTimesIn.nd (dgs_cons (dg_name (i := 3) scTimesIn.nd (dgs_nil ?_))))⟩)⟩
  refine dgs_cons (dg_tup rfl ⟨_, rfl, rfl, dgs_cons (dg_name (i := 4) scTimesIn.nd (dgs_cons (dg_name (i := 5) scTimesIn.nd (dgs_nil (dgs_nil ?_)))))⟩)
  refine dss_cons (ds_ret (de_call c_lowest_in hr (by decide) (da_cons (de_mul (dv 2 (dv 4 ⟨_, _, rfl, rfl, mul_ok (num2000 sp.1) (num2000 sq.1), ?_⟩))))))
  refine da_cons (de_mul (dv 3 (dv 5 ⟨_, _, rfl, rfl, mul_ok (nat2000 sp.2) (nat2000 sq.2), da_nil ⟨rfl, _, p.den * q.den, by rw [Int.natCast_mul], Nat.mul_pos p.den_pos q.den_pos, lt4000 (sp.dens sq), ?_⟩⟩)))
  rw [← mul_mk]
  exact hq
abbrev sMinusIn : Stmt := topS 22
theorem scMinusIn : FnScope ["one", "other"] ["one", "other"] (C8.fnScope sMinusIn) := ⟨rfl, rfl, rfl, by decide +kernel, rfl, by decide +kernel, by decide +kernel⟩
def spMinusIn : DSp := spBin (· - ·)
theorem sm_neg {q : Rat} (h : Sm q) : Sm (-q) := ⟨by simpa using h.1, by simpa using h.2⟩
theorem sm_int {i : Int} (h : i.natAbs < 2 ^ 900) : Sm (i : Rat) := Sm.int (Nat.lt_trans h (Nat.pow_lt_pow_right (by decide) (by decide)))
theorem ok_minus_in (T : Tp K mg "minus_in" sMinusIn ["one", "other"] []) (c_plus_in : C8.Cal P w K mg base 3 "plus_in" (spD K 2 spPlusIn) []) (c_times_in : C8.Cal P w K mg base 3 "times_in" (spD K 2 spTimesIn) []) : C8.Cal P w K mg base 4 "minus_in" (spD K 2 spMinusIn) [] := by
  refine d_ok (k := 3) T .nil scMinusIn rfl fun f cdv A outer s H E hr xs μ Q hl ⟨p, q, ex, sp, sq, hq⟩ => ?_
  subst ex
  refine dss_cons (ds_ret (de_call c_plus_in hr (by decide) (da_cons (dv 0 (da_cons ?_)))))
  refine de_call c_times_in hr (by decide) (da_cons (dv 1 (da_cons (de_neg (de_int ⟨_, rfl, da_nil ?_⟩)))))
  refine ⟨rfl, q, ((-1 : Int) : Rat), by rw [numD_int], sq, sm_int (by decide), ?_⟩
  have e1 : q * ((-1 : Int) : Rat) = -q := by
    rw [show ((-1 : Int) : Rat) = -1 from rfl]
    grind
  show DA _ _ _ _ _
  simp only [e1]
  refine da_nil ⟨rfl, p, -q, rfl, sp, sm_neg sq, ?_⟩
  show Q (.d (numD (p + -q))) μ
  rw [← Rat.sub_eq_add_neg]
  exact hq
abbrev sBelowIn : Stmt := topS 23
theorem scBelowIn : FnScope ["one", "other", "a", "b", "c", "d"] ["one", "other"] (C8.fnScope sBelowIn) := ⟨rfl, rfl, rfl, by decide +kernel, rfl, by decide +kernel, by decide +kernel⟩
def spBelowIn : DSp := fun xs μ Q => ∃ p q, xs = [.d (numD p), .d (numD q)] ∧ Sm p ∧ Sm q ∧ Q (.d (.bool (decide (p < q)))) μ
theorem ok_below_in (T : Tp K mg "below_in" sBelowIn ["one", "other"] []) (c_halves : C8.Cal P w K mg base 2 "halves" (spD K 1 spHalves) []) : C8.Cal P w K mg base 3 "below_in" (spD K 2 spBelowIn) [] := by
  refine d_ok (k := 2) T .nil scBelowIn rfl fun f cdv A outer s H E hr xs μ Q hl ⟨p, q, ex, sp, sq, hq⟩ => ?_
  subst ex
  refine dss_cons (ds_asg (de_tup (da_cons (de_call c_halves hr (by decide) (da_cons (dv 0 (da_nil ⟨rfl, p, rfl, ?_⟩)))))))
  refine da_cons (de_call c_halves hr (by decide) (da_cons (dv 1 (da_nil ⟨rfl, q, rfl, da_nil ⟨_, rfl, rfl, ?_⟩⟩))))
  refine dg_tup rfl ⟨_, rfl, rfl, dgs_cons (dg_tup rfl ⟨_, rfl, rfl, dgs_cons (dg_name (i := 2) scBelowIn.nd (dgs_cons (dg_name (i := 3) scBelowIn.nd (dgs_nil ?_))))⟩)⟩
  refine dgs_cons (dg_tup rfl ⟨_, rfl, rfl, dgs_cons (dg_name (i := 4) scBelowIn.nd (dgs_cons (dg_name (i := 5) scBelowIn.nd (dgs_nil (dgs_nil ?_)))))⟩)
  refine dss_cons (ds_ret (de_cmp (dc_lt (de_mul (dv 2 (dv 5 ⟨_, _, rfl, rfl, mul_ok (num2000 sp.1) (nat2000 sq.2), ?_⟩))))))
  refine de_mul (dv 4 (dv 3 ⟨_, _, rfl, rfl, mul_ok (num2000 sq.1) (nat2000 sp.2), _, _, rfl, rfl, ?_⟩))
  show Q (.d (.bool (decide (p.num * (q.den : Nat) < q.num * (p.den : Nat))))) μ
  rw [show decide (p.num * (q.den : Nat) < q.num * (p.den : Nat)) = decide (p < q) by rw [decide_eq_decide]; exact (lt_mk p q).symm]
  exact hq
end
end T12
end
section
set_option Elab.async false
set_option linter.all false
set_option maxRecDepth 100000
set_option maxHeartbeats 2000000
set_option exponentiation.threshold 5000
namespace T12
open PySem PySem.Spec PyProof.Rows L2
/-! ### comprehensions that map -/
theorem dlc_map {X : Cx} {scope : Scope} {elt : Expr} {bd : PyData → Sl → Option Sl} {vs : List Nat} {ρ : Sl} {Kf : List PyData → Mu → Prop} {α : Type} {e g : α → PyData} {μ : Mu} :
    ∀ (l : List α) (acc : List PyData), (∀ a ∈ l, ∃ ρ', bd (e a) (wipeD ρ vs) = some ρ' ∧ ∀ m, DUE X scope elt ρ' m fun x m' => m' = m ∧ x = .d (g a)) → Kf (acc ++ l.map g) μ →
    DLc (lcTurn X scope elt (fun _ μ Q => Q true μ) bd vs ρ) Kf (l.map e) acc μ
  | [], acc, _, k => by
    rw [List.map_nil, List.append_nil] at k
    exact k
  | a :: l, acc, h, k => by
    obtain ⟨ρ', hb, hd⟩ := h a List.mem_cons_self
    refine ⟨ρ', hb, fun D hD => ?_⟩
    refine iteT fun s H0 C cl fp => (hd _ s H0 C cl fp).imp fun x m' ⟨e1, e2⟩ => ?_
    subst e1
    refine ⟨g a, e2, put_same, ?_⟩
    rw [era_put hD]
    refine dlc_map l (acc ++ [g a]) (fun b hb' => h b (List.mem_cons_of_mem _ hb')) ?_
    rw [List.append_assoc]
    exact k
theorem zip2D_map {α β : Type} (e : α → PyData) (f : β → PyData) : ∀ (l : List α) (r : List β), zip2D (l.map e) (r.map f) = (l.zip r).map fun p => .tuple [e p.1, f p.2]
  | [], _ => rfl
  | _ :: _, [] => rfl
  | a :: l, b :: r => congrArg (PyData.tuple [e a, f b] :: ·) (zip2D_map e f l r)
theorem DG.imp {X : Cx} {tg : Expr} {x : SV} {ρ : Sl} {μ : Mu} {QN Q' : Sl → Mu → Prop} (h : DG X tg x ρ μ QN) (k : ∀ r m, QN r m → Q' r m) : DG X tg x ρ μ Q' := fun σ H v R r Qc q => h σ H v R r Qc fun ρ' μ' σ' H' z => q ρ' μ' σ' H' (k ρ' μ' z)
/-- a for by what holds ahead of the items that are left -/
theorem dfor_inv {X : Cx} {tg : Expr} {body : List Stmt} {Φ : DEnds} {α : Type} {e : α → PyData} (I : List α → Sl → Mu → Prop)
    (hs : ∀ a l ρ μ, I (a :: l) ρ μ → forTurn X tg body (e a) ρ μ { Φ with nx := I l, ct := I l, bk := Φ.nx }) (h0 : ∀ ρ μ, I [] ρ μ → Φ.nx ρ μ) : ∀ (l : List α) (ρ : Sl) (μ : Mu), I l ρ μ → DFor (forTurn X tg body) Φ (l.map e) ρ μ
  | [], ρ, μ, h => h0 ρ μ h
  | a :: l, ρ, μ, h => (hs a l ρ μ h).imp fun r m z => z.imp (dfor_inv I hs h0 l) (fun _ _ q => q) (fun _ _ q => q) (dfor_inv I hs h0 l)
section
variable {P : Program} {w : World} {K : PySem.W.Frag} {mg : Str → Option Value} {base : Heap}
/-! total -/
abbrev sTotal : Stmt := topS 24
theorem scTotal : FnScope ["numbers", "found", "number"] ["numbers"] (C8.fnScope sTotal) := ⟨rfl, rfl, rfl, by decide +kernel, rfl, by decide +kernel, by decide +kernel⟩
/-- sizes that are far from every bound -/
def Far (n : Nat) : Prop := n < 2 ^ 900
def spTotal : DSp := fun xs μ Q => ∃ (qs : List Rat) (D N : Nat), xs = [.d (.list (qs.map numD))] ∧ (∀ q ∈ qs, Wi D N q) ∧ qs.length ≤ 4 ∧ Far D ∧ Far N ∧ Q (.d (numD qs.sum)) μ
theorem far1000 {n : Nat} (h : Far n) : n < 2 ^ 1000 := Nat.lt_trans h (Nat.pow_lt_pow_right (by decide) (by decide))
theorem far8 {n k : Nat} (h : Far n) (hk : k ≤ 8) : k * n < 2 ^ 1000 := by
  have e : (2 : Nat) ^ 1000 = 2 ^ 100 * 2 ^ 900 := by rw [← Nat.pow_add]
  have : 8 ≤ 2 ^ 100 := by decide
  rw [e]
  have h' : n < 2 ^ 900 := h
  calc k * n ≤ 2 ^ 100 * n := Nat.mul_le_mul_right _ (by omega)
    _ < 2 ^ 100 * 2 ^ 900 := Nat.mul_lt_mul_of_pos_left h' (by decide)
theorem Wi.zero {D : Nat} (h : 0 < D) : Wi D 0 0 := ⟨h, 0, by simp, by simp⟩
theorem ok_total (T : Tp K mg "total" sTotal ["numbers"] []) (c_plus_in : C8.Cal P w K mg base 3 "plus_in" (spD K 2 spPlusIn) []) : C8.Cal P w K mg base 4 "total" (spD K 1 spTotal) [] := by
  refine d_ok (k := 3) T .nil scTotal rfl fun f cdv A outer s H E hr xs μ Q hl ⟨qs, D, N, ex, hw, hlen, hD, hN, hq⟩ => ?_
  subst ex
  refine dss_cons (ds_set (i := 1) scTotal.nd (de_int ?_))
  refine dss_cons (ds_for .never (di_list (dv 0 ⟨_, rfl, ?_⟩)))
  refine dfor_inv (e := numD) (fun rs ρ m => m = μ ∧ ∃ (acc : Rat) (k : Nat) (r : Option SV), (∀ q ∈ rs, Wi D N q) ∧ k + rs.length ≤ 4 ∧ (0 < D → Wi D (k * N) acc) ∧ acc + rs.sum = qs.sum ∧ ρ = [some (.d (.list (qs.map numD))), some (.d (numD acc)), r]) ?_ ?_ qs _ _
    ⟨rfl, 0, 0, none, hw, by omega, fun h => by rw [Nat.zero_mul]; exact Wi.zero h, Rat.zero_add _, by rw [show numD 0 = .int 0 from numD_int 0]; rfl⟩
  · rintro q rs ρ m ⟨rfl, acc, k, r, hw', hk, ha, e, rfl⟩
    have hq' := hw' q List.mem_cons_self
    have ha' := ha hq'.1
    have hkl : k + 1 + rs.length ≤ 4 := by rw [List.length_cons] at hk; omega
    refine dg_name (i := 2) scTotal.nd (dss_cons (ds_set (i := 1) scTotal.nd (de_call c_plus_in hr (by decide) (da_cons (dv 1 (da_cons (dv 2 (da_nil ⟨rfl, acc, q, rfl, ?_, ?_, dss_nil ?_⟩))))))))
    · exact ha'.sm (far1000 hD) (far8 hN (by omega))
    · exact hq'.sm (far1000 hD) (far1000 hN)
    · refine ⟨rfl, acc + q, k + 1, _, fun z hz => hw' z (List.mem_cons_of_mem _ hz), hkl, fun _ => ?_, ?_, rfl⟩
      · rw [Nat.add_mul, Nat.one_mul]; exact ha'.add hq'
      · rw [← e, List.sum_cons, Rat.add_assoc]
  · rintro ρ m ⟨rfl, acc, k, r, _, _, _, e, rfl⟩
    refine dss_cons (ds_ret (dv 1 ?_))
    rw [List.sum_nil, Rat.add_zero] at e
    rw [e]
    exact hq
end
end T12
end
section
set_option Elab.async false
set_option linter.all false
set_option maxRecDepth 100000
set_option maxHeartbeats 2000000
set_option exponentiation.threshold 5000
namespace T12
open PySem PySem.Spec PyProof.Rows L2
/-- the constants of the text -/
structure Gc (mg : Str → Option Value) : Prop where
  LEAST_UNDER : ∃ t, mg "LEAST_UNDER" = some (.int 2 t)
  SMALL_ABOVE : ∃ t, mg "SMALL_ABOVE" = some (.int 1000000 t)
  SMALL_UNDER : ∃ t, mg "SMALL_UNDER" = some (.int 1000 t)
  MOST_WIDE : ∃ t, mg "MOST_WIDE" = some (.int 2 t)
  MOST_PIECES : ∃ t, mg "MOST_PIECES" = some (.int 60 t)
  FARTHEST : ∃ t, mg "FARTHEST" = some (.int 1000 t)
  MOST_WAY : ∃ t, mg "MOST_WAY" = some (.int 400 t)
theorem dgc {X : Cx} {ρ : Sl} {μ : Mu} {Q : SV → Mu → Prop} {x : Str} {pos : Pos} {i : Int} (h : ∃ t, X.mg x = some (.int i t)) (q : Q (.d (.int i)) μ) (hg : Gl X x := by rfl) (hd : (x == ("__debug__" : Str)) = false := by decide) : DE X (.Name x pos) ρ μ Q := by
  obtain ⟨t, ht⟩ := h
  exact de_gint ht q hg hd
section
variable {P : Program} {w : World} {K : PySem.W.Frag} {mg : Str → Option Value} {base : Heap}
/-! is_within -/
abbrev sIsWithin : Stmt := topS 11
theorem scIsWithin : FnScope ["value", "least", "most"] ["value", "least", "most"] (C8.fnScope sIsWithin) := ⟨rfl, rfl, rfl, by decide +kernel, rfl, by decide +kernel, by decide +kernel⟩
def optD : Option Int → PyData
  | none => .none
  | some i => .int i
def within (i : Int) (lo hi : Option Int) : Bool := (match lo with | none => true | some l => decide (l ≤ i)) && (match hi with | none => true | some h => decide (i ≤ h))
def spIsWithin : DSp := fun xs μ Q => ∃ i lo hi, xs = [.d (.int i), .d (optD lo), .d (optD hi)] ∧ Q (.d (.bool (within i lo hi))) μ
theorem ok_is_within (T : Tp K mg "is_within" sIsWithin ["value", "least", "most"] []) (c_is_integer : C8.Cal P w K mg base 1 "is_integer" (spD K 1 spIsInteger) []) : C8.Cal P w K mg base 2 "is_within" (spD K 3 spIsWithin) [] := by
  refine d_ok (k := 1) T .nil scIsWithin rfl fun f cdv A outer s H E hr xs μ Q hl ⟨i, lo, hi, ex, hq⟩ => ?_
  subst ex
  unfold within at hq
  refine dss_cons (ds_if (dt_not (dt_val (de_call c_is_integer hr (by decide) (da_cons (dv 0 (da_nil ⟨rfl, ?_⟩)))))))
  refine ⟨_, true, rfl, rfl, trivial, true, rfl, iteF (dss_nil ?_)⟩
  cases lo with
  | none =>
    refine dss_cons (ds_ret (de_and (de_or (de_cmp (dc_isN (dv 1 ⟨_, rfl, _, rfl, iteT ⟨_, rfl, iteT ?_⟩⟩))))))
    cases hi with
    | none => exact de_one (de_or (de_cmp (dc_isN (dv 2 ⟨_, rfl, _, rfl, iteT hq⟩))))
    | some h => exact de_one (de_or (de_cmp (dc_isN (dv 2 ⟨_, rfl, _, rfl, iteF (de_one (de_cmp (dc_le (dv 0 (dv 2 ⟨_, _, rfl, rfl, hq⟩)))))⟩))))
  | some l =>
    refine dss_cons (ds_ret (de_and (de_or (de_cmp (dc_isN (dv 1 ⟨_, rfl, _, rfl, iteF (de_one (de_cmp (dc_le (dv 1 (dv 0 ⟨_, _, rfl, rfl, _, rfl, ?_⟩)))))⟩))))))
    refine ite2 (fun hc => ?_) (fun hc => ?_)
    · simp only [hc, Bool.true_and] at hq
      cases hi with
      | none => exact de_one (de_or (de_cmp (dc_isN (dv 2 ⟨_, rfl, _, rfl, iteT hq⟩))))
      | some h => exact de_one (de_or (de_cmp (dc_isN (dv 2 ⟨_, rfl, _, rfl, iteF (de_one (de_cmp (dc_le (dv 0 (dv 2 ⟨_, _, rfl, rfl, hq⟩)))))⟩))))
    · have hc' : decide (l ≤ i) = false := by simpa using hc
      simp only [hc', Bool.false_and] at hq
      exact hq
/-! is_list -/
abbrev sIsList : Stmt := topS 12
theorem scIsList : FnScope ["value"] ["value"] (C8.fnScope sIsList) := ⟨rfl, rfl, rfl, by decide +kernel, rfl, by decide +kernel, by decide +kernel⟩
def isLst : SV → Option Bool
  | .d (.list _) => some true
  | .d (.tuple _) => some true
  | .d (.dict _) => none
  | .d _ => some false
  | .m _ => some true
  | .t T => if T = "dict" then some false else if T = "list" then some true else none
  | .pr _ => none
  | .o _ _ => none
def spIsList : DSp := fun xs μ Q => ∃ x b, xs = [x] ∧ isLst x = some b ∧ known μ x ∧ Q (.d (.bool b)) μ
theorem tyLst {x : SV} {b : Bool} (h : isLst x = some b) : ∃ T, tyN x = some T ∧ (kitB T "list" = some true ∧ b = true ∨ kitB T "list" = some false ∧ kitB T "tuple" = some b) := by
  cases x with
  | d p => cases p <;> cases h <;> refine ⟨_, rfl, ?_⟩ <;> first | exact .inl ⟨by decide +kernel, rfl⟩ | exact .inr ⟨by decide +kernel, by decide +kernel⟩
  | m a => cases h; exact ⟨_, rfl, .inl ⟨by decide +kernel, rfl⟩⟩
  | o C fs => cases h
  | t T =>
    have h' : (if T = "dict" then some false else if T = "list" then some true else none) = some b := h
    by_cases hT : T = "dict"
    · rw [if_pos hT] at h'
      cases h'
      subst hT
      exact ⟨_, rfl, .inr ⟨by decide +kernel, by decide +kernel⟩⟩
    · rw [if_neg hT] at h'
      by_cases hT2 : T = "list"
      · rw [if_pos hT2] at h'
        cases h'
        subst hT2
        exact ⟨_, rfl, .inl ⟨by decide +kernel, rfl⟩⟩
      · rw [if_neg hT2] at h'; cases h'
  | pr _ => cases h
theorem ok_is_list (T : Tp K mg "is_list" sIsList ["value"] []) (B : Bl mg) : C8.Cal P w K mg base 1 "is_list" (spD K 1 spIsList) [] := by
  refine d_ok (k := 0) T .nil scIsList rfl fun f cdv A outer s H E hr xs μ Q hl ⟨x, b, ex, hx, hk, q⟩ => ?_
  subst ex
  obtain ⟨t, h1, h2⟩ := tyLst hx
  exact dss_cons (ds_ret (de_isLT B.isinstance B.list B.tuple (dv 0 ⟨t, b, h1, hk, h2, q⟩)))
/-! is_number -/
theorem numD_int' {q : Rat} : isInt (.d (numD q)) = some (decide (q.den = 1)) := by
  by_cases c : q.den = 1
  · rw [numD_one c, decide_eq_true c]; rfl
  · rw [numD_two c, decide_eq_false c]; rfl
theorem numD_lst {q : Rat} : isLst (.d (numD q)) = some (!decide (q.den = 1)) := by
  by_cases c : q.den = 1
  · rw [numD_one c, decide_eq_true c]; rfl
  · rw [numD_two c, decide_eq_false c]; rfl
abbrev sIsNumber : Stmt := topS 26
theorem scIsNumber : FnScope ["value"] ["value"] (C8.fnScope sIsNumber) := ⟨rfl, rfl, rfl, by decide +kernel, rfl, by decide +kernel, by decide +kernel⟩
def spIsNumber : DSp := fun xs μ Q => ∃ q, xs = [.d (numD q)] ∧ Q (.d (.bool true)) μ
theorem ok_is_number (T : Tp K mg "is_number" sIsNumber ["value"] []) (B : Bl mg) (G : Gc mg) (c_is_integer : C8.Cal P w K mg base 1 "is_integer" (spD K 1 spIsInteger) []) (c_is_list : C8.Cal P w K mg base 1 "is_list" (spD K 1 spIsList) [])
    (c_is_within : C8.Cal P w K mg base 2 "is_within" (spD K 3 spIsWithin) []) (c_common : C8.Cal P w K mg base 1 "common" (spD K 2 spCommon) []) : C8.Cal P w K mg base 3 "is_number" (spD K 1 spIsNumber) [] := by
  refine d_ok (k := 2) T .nil scIsNumber rfl fun f cdv A outer s H E hr xs μ Q hl ⟨q, ex, hq⟩ => ?_
  subst ex
  refine dss_cons (ds_if (dt_not (dt_val (de_call c_is_list hr (by decide) (da_cons (dv 0 (da_nil ⟨rfl, ?_⟩)))))))
  refine ⟨_, _, rfl, numD_lst, trivial, _, rfl, ?_⟩
  by_cases c : q.den = 1
  · rw [decide_eq_true c]
    refine iteT (dss_cons (ds_ret (de_call c_is_integer hr (by decide) (da_cons (dv 0 (da_nil ⟨rfl, ?_⟩))))))
    refine ⟨_, _, rfl, numD_int', trivial, ?_⟩
    rw [decide_eq_true c]
    exact hq
  · rw [decide_eq_false c]
    refine iteF (dss_nil ?_)
    rw [numD_two c]
    refine dss_cons (ds_if (dt_w (dw_or (dt_cmp (dc_neI (de_len B.len (dv 0 ⟨_, rfl, de_int ⟨_, _, rfl, rfl, _, rfl, ?_⟩⟩)))))))
    refine iteF (dw_or (dt_not (dt_val (de_call c_is_integer hr (by decide) (da_cons (de_ix (dv 0 (de_int ⟨_, _, _, rfl, rfl, rfl, da_nil ⟨rfl, ?_⟩⟩))))))))
    refine ⟨_, true, rfl, rfl, trivial, _, rfl, ?_⟩
    refine iteF (dw_or1 (dt_not (dt_val (de_call c_is_within hr (by decide) (da_cons (de_ix (dv 0 (de_int ⟨_, _, _, rfl, rfl, rfl, ?_⟩))))))))
    refine da_cons (dgc G.LEAST_UNDER (da_cons (de_non (da_nil ⟨rfl, ?_⟩))))
    refine ⟨_, some 2, none, rfl, _, rfl, ?_⟩
    have hw : within ((q.den : Nat) : Int) (some 2) none = true := by
      have := q.den_pos
      unfold within
      simp only [Bool.and_true, decide_eq_true_eq]
      omega
    rw [hw]
    refine iteF (dss_nil ?_)
    refine dss_cons (ds_ret (de_cmp (dc_eqI (de_call c_common hr (by decide) (da_cons (de_ix (dv 0 (de_int ⟨_, _, _, rfl, rfl, rfl, ?_⟩))))))))
    refine da_cons (de_ix (dv 0 (de_int ⟨_, _, _, rfl, rfl, rfl, da_nil ⟨rfl, ?_⟩⟩)))
    refine ⟨_, _, rfl, ?_⟩
    refine de_int ⟨_, _, rfl, rfl, ?_⟩
    have hg : (((q.den : Nat) : Int).natAbs.gcd q.num.natAbs : Nat) = 1 := by
      rw [Int.natAbs_natCast, Nat.gcd_comm]
      exact q.reduced
    show Q (.d (.bool (decide (((((q.den : Nat) : Int).natAbs.gcd q.num.natAbs : Nat) : Int) = 1)))) μ
    rw [hg]
    exact hq
/-! is_small -/
def small (q : Rat) : Bool := decide (q.num.natAbs ≤ 1000000) && decide (q.den ≤ 1000)
abbrev sIsSmall : Stmt := topS 27
theorem scIsSmall : FnScope ["value", "above", "under"] ["value"] (C8.fnScope sIsSmall) := ⟨rfl, rfl, rfl, by decide +kernel, rfl, by decide +kernel, by decide +kernel⟩
def spIsSmall : DSp := fun xs μ Q => ∃ q, xs = [.d (numD q)] ∧ Q (.d (.bool (small q))) μ
theorem ok_is_small (T : Tp K mg "is_small" sIsSmall ["value"] []) (B : Bl mg) (G : Gc mg) (c_is_number : C8.Cal P w K mg base 3 "is_number" (spD K 1 spIsNumber) []) (c_halves : C8.Cal P w K mg base 2 "halves" (spD K 1 spHalves) []) : C8.Cal P w K mg base 4 "is_small" (spD K 1 spIsSmall) [] := by
  refine d_ok (k := 3) T .nil scIsSmall rfl fun f cdv A outer s H E hr xs μ Q hl ⟨q, ex, hq⟩ => ?_
  subst ex
  refine dss_cons (ds_if (dt_not (dt_val (de_call c_is_number hr (by decide) (da_cons (dv 0 (da_nil ⟨rfl, q, rfl, true, rfl, iteF (dss_nil ?_)⟩)))))))
  refine dss_cons (ds_asg (de_call c_halves hr (by decide) (da_cons (dv 0 (da_nil ⟨rfl, q, rfl, ?_⟩)))))
  refine dg_tup rfl ⟨_, rfl, rfl, dgs_cons (dg_name (i := 1) scIsSmall.nd (dgs_cons (dg_name (i := 2) scIsSmall.nd (dgs_nil ?_))))⟩
  refine dss_cons (ds_ret (de_and (de_cmp (dc_le (de_abs B.abs (dv 1 ⟨_, rfl, dgc G.SMALL_ABOVE ⟨_, _, rfl, rfl, _, rfl, ?_⟩⟩))))))
  have e1 : decide ((if q.num < 0 then -q.num else q.num) ≤ 1000000) = decide (q.num.natAbs ≤ 1000000) := by
    rw [decide_eq_decide, absI]; omega
  have e2 : decide (((q.den : Nat) : Int) ≤ 1000) = decide (q.den ≤ 1000) := by
    rw [decide_eq_decide]; omega
  rw [e1]
  unfold small at hq
  refine ite2 (fun hc => ?_) (fun hc => ?_)
  · refine de_one (de_cmp (dc_le (dv 2 (dgc G.SMALL_UNDER ⟨_, _, rfl, rfl, ?_⟩))))
    rw [hc, Bool.true_and] at hq
    show Q (.d (.bool (decide (((q.den : Nat) : Int) ≤ 1000)))) μ
    rw [e2]
    exact hq
  · have hc' : decide (q.num.natAbs ≤ 1000000) = false := by simpa using hc
    rw [hc', Bool.false_and] at hq
    exact hq
/-! kept_number -/
abbrev sKeptNumber : Stmt := topS 28
theorem scKeptNumber : FnScope ["value"] ["value"] (C8.fnScope sKeptNumber) := ⟨rfl, rfl, rfl, by decide +kernel, rfl, by decide +kernel, by decide +kernel⟩
def spKeptNumber : DSp := fun xs μ Q => ∃ q, xs = [.d (numD q)] ∧ Q (.d (numD q)) μ
theorem ok_kept_number (T : Tp K mg "kept_number" sKeptNumber ["value"] []) (B : Bl mg) (c_is_list : C8.Cal P w K mg base 1 "is_list" (spD K 1 spIsList) []) : C8.Cal P w K mg base 2 "kept_number" (spD K 1 spKeptNumber) [] := by
  refine d_ok (k := 1) T .nil scKeptNumber rfl fun f cdv A outer s H E hr xs μ Q hl ⟨q, ex, hq⟩ => ?_
  subst ex
  refine dss_cons (ds_ret (de_if (dt_val (de_call c_is_list hr (by decide) (da_cons (dv 0 (da_nil ⟨rfl, ?_⟩)))))))
  refine ⟨_, _, rfl, numD_lst, trivial, _, rfl, ?_⟩
  by_cases c : q.den = 1
  · rw [decide_eq_true c]
    exact iteF (dv 0 hq)
  · rw [decide_eq_false c]
    refine iteT (de_tuple B.tuple (dv 0 ?_))
    rw [numD_two c] at hq ⊢
    exact ⟨_, rfl, hq⟩
end
end T12
end
section
set_option Elab.async false
set_option linter.all false
set_option maxRecDepth 100000
set_option maxHeartbeats 2000000
set_option exponentiation.threshold 5000
namespace T12
open PySem PySem.Spec PyProof.Rows L2
section
variable {P : Program} {w : World} {K : PySem.W.Frag} {mg : Str → Option Value} {base : Heap} {N ps : List Str} {fx : Str} {st : Stmt} {f : Addr} {cdv : Value} {A : Around} {outer : List Env} {s : Shared} {H : Hp} {E : XK}
  {ρ : Sl} {μ : Mu} {Q : SV → Mu → Prop} {Φ : DEnds} {elt iter : Expr} {scope : Scope} {pos p p1 p2 p3 p4 pp : Pos} {n1 n2 n3 nm : Str} {kt : Nat}
theorem lc1 (i : Nat) (S : FnScope N ps (C8.fnScope st))
    (h : DI (BD P w K mg base N fx st f cdv A outer s H E) (.Name n1 p1) iter ρ μ fun ds m => ds.length ≤ 1000 ∧ DLc (lcTurn (BD P w K mg base N fx st f cdv A outer s H E) scope elt (fun _ μ Q => Q true μ) (bdN i) [i] ρ) (fun acc m => Q (.d (.list acc)) m) ds [] m)
    (ok : blkC N (C8.fnScope st) scope [(n1, i)] = true := by decide +kernel) (h1 : N[i]? = some n1 := by rfl) (l1 : (relS scope (C8.fnScope st)).names.lookup n1 = some .local := by rfl)
    (hs : ∀ x, foldedSetIterable iter (BD P w K mg base N fx st f cdv A outer s H E).env x = pure x := by intro _; rfl) :
    DE (BD P w K mg base N fx st f cdv A outer s H E) (.ListComp elt [⟨.Name n1 p1, iter, [], 0⟩] scope pos) ρ μ Q :=
  de_lc (own := [(n1, i)]) S.nd (bd_name i) (ts_nil _ _) (blkOk_by ok) (fun _ _ _ _ _ => pg_name (i := i) S.nd h1 (Or.inl l1) (.inr l1)) h rfl hs
theorem lc1c {c : Expr} (i : Nat) (S : FnScope N ps (C8.fnScope st))
    (h : DI (BD P w K mg base N fx st f cdv A outer s H E) (.Name n1 p1) iter ρ μ fun ds m => ds.length ≤ 1000 ∧ DLc (lcTurn (BD P w K mg base N fx st f cdv A outer s H E) scope elt (DUT (BD P w K mg base N fx st f cdv A outer s H E) scope c) (bdN i) [i] ρ) (fun acc m => Q (.d (.list acc)) m) ds [] m)
    (ok : blkC N (C8.fnScope st) scope [(n1, i)] = true := by decide +kernel) (h1 : N[i]? = some n1 := by rfl) (l1 : (relS scope (C8.fnScope st)).names.lookup n1 = some .local := by rfl)
    (hs : ∀ x, foldedSetIterable iter (BD P w K mg base N fx st f cdv A outer s H E).env x = pure x := by intro _; rfl) :
    DE (BD P w K mg base N fx st f cdv A outer s H E) (.ListComp elt [⟨.Name n1 p1, iter, [c], 0⟩] scope pos) ρ μ Q :=
  de_lc (own := [(n1, i)]) S.nd (bd_name i) (ts_one _ _ c) (blkOk_by ok) (fun _ _ _ _ _ => pg_name (i := i) S.nd h1 (Or.inl l1) (.inr l1)) h rfl hs
theorem lc2 (i j : Nat) (S : FnScope N ps (C8.fnScope st))
    (h : DI (BD P w K mg base N fx st f cdv A outer s H E) (.Tuple [.Name n1 p1, .Name n2 p2] kt pp) iter ρ μ fun ds m => ds.length ≤ 1000 ∧ DLc (lcTurn (BD P w K mg base N fx st f cdv A outer s H E) scope elt (fun _ μ Q => Q true μ) (bd2 i j) [i, j] ρ) (fun acc m => Q (.d (.list acc)) m) ds [] m)
    (ok : blkC N (C8.fnScope st) scope [(n1, i), (n2, j)] = true := by decide +kernel) (h1 : N[i]? = some n1 := by rfl) (h2 : N[j]? = some n2 := by rfl) (l1 : (relS scope (C8.fnScope st)).names.lookup n1 = some .local := by rfl) (l2 : (relS scope (C8.fnScope st)).names.lookup n2 = some .local := by rfl)
    (hs : ∀ x, foldedSetIterable iter (BD P w K mg base N fx st f cdv A outer s H E).env x = pure x := by intro _; rfl) :
    DE (BD P w K mg base N fx st f cdv A outer s H E) (.ListComp elt [⟨.Tuple [.Name n1 p1, .Name n2 p2] kt pp, iter, [], 0⟩] scope pos) ρ μ Q :=
  de_lc (own := [(n1, i), (n2, j)]) S.nd (bd_two K i j) (ts_nil _ _) (blkOk_by ok) (fun _ _ _ _ _ => pg_tup rfl (pgs_cons (pg_name (i := i) S.nd h1 (Or.inl l1) (.inr l1)) (pgs_cons (pg_name (i := j) S.nd h2 (Or.inl l2) (.inr l2)) pgs_nil))) h rfl hs
theorem lc2c {c : Expr} (i j : Nat) (S : FnScope N ps (C8.fnScope st))
    (h : DI (BD P w K mg base N fx st f cdv A outer s H E) (.Tuple [.Name n1 p1, .Name n2 p2] kt pp) iter ρ μ fun ds m => ds.length ≤ 1000 ∧ DLc (lcTurn (BD P w K mg base N fx st f cdv A outer s H E) scope elt (DUT (BD P w K mg base N fx st f cdv A outer s H E) scope c) (bd2 i j) [i, j] ρ) (fun acc m => Q (.d (.list acc)) m) ds [] m)
    (ok : blkC N (C8.fnScope st) scope [(n1, i), (n2, j)] = true := by decide +kernel) (h1 : N[i]? = some n1 := by rfl) (h2 : N[j]? = some n2 := by rfl) (l1 : (relS scope (C8.fnScope st)).names.lookup n1 = some .local := by rfl) (l2 : (relS scope (C8.fnScope st)).names.lookup n2 = some .local := by rfl)
    (hs : ∀ x, foldedSetIterable iter (BD P w K mg base N fx st f cdv A outer s H E).env x = pure x := by intro _; rfl) :
    DE (BD P w K mg base N fx st f cdv A outer s H E) (.ListComp elt [⟨.Tuple [.Name n1 p1, .Name n2 p2] kt pp, iter, [c], 0⟩] scope pos) ρ μ Q :=
  de_lc (own := [(n1, i), (n2, j)]) S.nd (bd_two K i j) (ts_one _ _ c) (blkOk_by ok) (fun _ _ _ _ _ => pg_tup rfl (pgs_cons (pg_name (i := i) S.nd h1 (Or.inl l1) (.inr l1)) (pgs_cons (pg_name (i := j) S.nd h2 (Or.inl l2) (.inr l2)) pgs_nil))) h rfl hs
theorem lc3 (i j k : Nat) (S : FnScope N ps (C8.fnScope st))
    (h : DI (BD P w K mg base N fx st f cdv A outer s H E) (.Tuple [.Name n1 p1, .Name n2 p2, .Name n3 p3] kt pp) iter ρ μ fun ds m => ds.length ≤ 1000 ∧ DLc (lcTurn (BD P w K mg base N fx st f cdv A outer s H E) scope elt (fun _ μ Q => Q true μ) (bd3 i j k) [i, j, k] ρ) (fun acc m => Q (.d (.list acc)) m) ds [] m)
    (ok : blkC N (C8.fnScope st) scope [(n1, i), (n2, j), (n3, k)] = true := by decide +kernel) (h1 : N[i]? = some n1 := by rfl) (h2 : N[j]? = some n2 := by rfl) (h3 : N[k]? = some n3 := by rfl) (l1 : (relS scope (C8.fnScope st)).names.lookup n1 = some .local := by rfl) (l2 : (relS scope (C8.fnScope st)).names.lookup n2 = some .local := by rfl) (l3 : (relS scope (C8.fnScope st)).names.lookup n3 = some .local := by rfl)
    (hs : ∀ x, foldedSetIterable iter (BD P w K mg base N fx st f cdv A outer s H E).env x = pure x := by intro _; rfl) :
    DE (BD P w K mg base N fx st f cdv A outer s H E) (.ListComp elt [⟨.Tuple [.Name n1 p1, .Name n2 p2, .Name n3 p3] kt pp, iter, [], 0⟩] scope pos) ρ μ Q :=
  de_lc (own := [(n1, i), (n2, j), (n3, k)]) S.nd (bd_three K i j k) (ts_nil _ _) (blkOk_by ok) (fun _ _ _ _ _ => pg_tup rfl (pgs_cons (pg_name (i := i) S.nd h1 (Or.inl l1) (.inr l1)) (pgs_cons (pg_name (i := j) S.nd h2 (Or.inl l2) (.inr l2)) (pgs_cons (pg_name (i := k) S.nd h3 (Or.inl l3) (.inr l3)) pgs_nil)))) h rfl hs
/-! x = [..] -/
theorem slc1 (t : Nat) (i : Nat) (S : FnScope N ps (C8.fnScope st))
    (h : DI (BD P w K mg base N fx st f cdv A outer s H E) (.Name n1 p1) iter ρ μ fun ds m => ds.length ≤ 1000 ∧ DLc (lcTurn (BD P w K mg base N fx st f cdv A outer s H E) scope elt (fun _ μ Q => Q true μ) (bdN i) [i] ρ) (fun acc m => Φ.nx (ρ.set t (some (.d (.list acc)))) m) ds [] m)
    (hsw : swapsWith (.ListComp elt [⟨.Name n1 p1, iter, [], 0⟩] scope pos) (some (.Name nm p)) p4.line (BD P w K mg base N fx st f cdv A outer s H E).env = pure true := by rfl)
    (ok : blkC N (C8.fnScope st) scope [(n1, i)] = true := by decide +kernel) (h1 : N[i]? = some n1 := by rfl) (l1 : (relS scope (C8.fnScope st)).names.lookup n1 = some .local := by rfl) (ht : N[t]? = some nm := by rfl) (lt : (C8.fnScope st).names.lookup nm = some .local := by rfl)
    (hs : ∀ x, foldedSetIterable iter (BD P w K mg base N fx st f cdv A outer s H E).env x = pure x := by intro _; rfl) :
    DS (BD P w K mg base N fx st f cdv A outer s H E) (.Assign [.Name nm p] (.ListComp elt [⟨.Name n1 p1, iter, [], 0⟩] scope pos) p4) ρ μ Φ :=
  ds_setLc (own := [(n1, i)]) S.nd (bd_name i) (ts_nil _ _) (blkOk_by ok) (fun _ _ _ _ _ => pg_name (i := i) S.nd h1 (Or.inl l1) (.inr l1)) hsw h ht lt rfl hs
theorem slc2 (t : Nat) (i j : Nat) (S : FnScope N ps (C8.fnScope st))
    (h : DI (BD P w K mg base N fx st f cdv A outer s H E) (.Tuple [.Name n1 p1, .Name n2 p2] kt pp) iter ρ μ fun ds m => ds.length ≤ 1000 ∧ DLc (lcTurn (BD P w K mg base N fx st f cdv A outer s H E) scope elt (fun _ μ Q => Q true μ) (bd2 i j) [i, j] ρ) (fun acc m => Φ.nx (ρ.set t (some (.d (.list acc)))) m) ds [] m)
    (hsw : swapsWith (.ListComp elt [⟨.Tuple [.Name n1 p1, .Name n2 p2] kt pp, iter, [], 0⟩] scope pos) (some (.Name nm p)) p4.line (BD P w K mg base N fx st f cdv A outer s H E).env = pure true := by rfl)
    (ok : blkC N (C8.fnScope st) scope [(n1, i), (n2, j)] = true := by decide +kernel) (h1 : N[i]? = some n1 := by rfl) (h2 : N[j]? = some n2 := by rfl) (l1 : (relS scope (C8.fnScope st)).names.lookup n1 = some .local := by rfl) (l2 : (relS scope (C8.fnScope st)).names.lookup n2 = some .local := by rfl) (ht : N[t]? = some nm := by rfl) (lt : (C8.fnScope st).names.lookup nm = some .local := by rfl)
    (hs : ∀ x, foldedSetIterable iter (BD P w K mg base N fx st f cdv A outer s H E).env x = pure x := by intro _; rfl) :
    DS (BD P w K mg base N fx st f cdv A outer s H E) (.Assign [.Name nm p] (.ListComp elt [⟨.Tuple [.Name n1 p1, .Name n2 p2] kt pp, iter, [], 0⟩] scope pos) p4) ρ μ Φ :=
  ds_setLc (own := [(n1, i), (n2, j)]) S.nd (bd_two K i j) (ts_nil _ _) (blkOk_by ok) (fun _ _ _ _ _ => pg_tup rfl (pgs_cons (pg_name (i := i) S.nd h1 (Or.inl l1) (.inr l1)) (pgs_cons (pg_name (i := j) S.nd h2 (Or.inl l2) (.inr l2)) pgs_nil))) hsw h ht lt rfl hs
theorem slc2c (t : Nat) {c : Expr} (i j : Nat) (S : FnScope N ps (C8.fnScope st))
    (h : DI (BD P w K mg base N fx st f cdv A outer s H E) (.Tuple [.Name n1 p1, .Name n2 p2] kt pp) iter ρ μ fun ds m => ds.length ≤ 1000 ∧ DLc (lcTurn (BD P w K mg base N fx st f cdv A outer s H E) scope elt (DUT (BD P w K mg base N fx st f cdv A outer s H E) scope c) (bd2 i j) [i, j] ρ) (fun acc m => Φ.nx (ρ.set t (some (.d (.list acc)))) m) ds [] m)
    (hsw : swapsWith (.ListComp elt [⟨.Tuple [.Name n1 p1, .Name n2 p2] kt pp, iter, [c], 0⟩] scope pos) (some (.Name nm p)) p4.line (BD P w K mg base N fx st f cdv A outer s H E).env = pure true := by rfl)
    (ok : blkC N (C8.fnScope st) scope [(n1, i), (n2, j)] = true := by decide +kernel) (h1 : N[i]? = some n1 := by rfl) (h2 : N[j]? = some n2 := by rfl) (l1 : (relS scope (C8.fnScope st)).names.lookup n1 = some .local := by rfl) (l2 : (relS scope (C8.fnScope st)).names.lookup n2 = some .local := by rfl) (ht : N[t]? = some nm := by rfl) (lt : (C8.fnScope st).names.lookup nm = some .local := by rfl)
    (hs : ∀ x, foldedSetIterable iter (BD P w K mg base N fx st f cdv A outer s H E).env x = pure x := by intro _; rfl) :
    DS (BD P w K mg base N fx st f cdv A outer s H E) (.Assign [.Name nm p] (.ListComp elt [⟨.Tuple [.Name n1 p1, .Name n2 p2] kt pp, iter, [c], 0⟩] scope pos) p4) ρ μ Φ :=
  ds_setLc (own := [(n1, i), (n2, j)]) S.nd (bd_two K i j) (ts_one _ _ c) (blkOk_by ok) (fun _ _ _ _ _ => pg_tup rfl (pgs_cons (pg_name (i := i) S.nd h1 (Or.inl l1) (.inr l1)) (pgs_cons (pg_name (i := j) S.nd h2 (Or.inl l2) (.inr l2)) pgs_nil))) hsw h ht lt rfl hs
theorem slc3 (t : Nat) (i j k : Nat) (S : FnScope N ps (C8.fnScope st))
    (h : DI (BD P w K mg base N fx st f cdv A outer s H E) (.Tuple [.Name n1 p1, .Name n2 p2, .Name n3 p3] kt pp) iter ρ μ fun ds m => ds.length ≤ 1000 ∧ DLc (lcTurn (BD P w K mg base N fx st f cdv A outer s H E) scope elt (fun _ μ Q => Q true μ) (bd3 i j k) [i, j, k] ρ) (fun acc m => Φ.nx (ρ.set t (some (.d (.list acc)))) m) ds [] m)
    (hsw : swapsWith (.ListComp elt [⟨.Tuple [.Name n1 p1, .Name n2 p2, .Name n3 p3] kt pp, iter, [], 0⟩] scope pos) (some (.Name nm p)) p4.line (BD P w K mg base N fx st f cdv A outer s H E).env = pure true := by rfl)
    (ok : blkC N (C8.fnScope st) scope [(n1, i), (n2, j), (n3, k)] = true := by decide +kernel) (h1 : N[i]? = some n1 := by rfl) (h2 : N[j]? = some n2 := by rfl) (h3 : N[k]? = some n3 := by rfl) (l1 : (relS scope (C8.fnScope st)).names.lookup n1 = some .local := by rfl) (l2 : (relS scope (C8.fnScope st)).names.lookup n2 = some .local := by rfl) (l3 : (relS scope (C8.fnScope st)).names.lookup n3 = some .local := by rfl) (ht : N[t]? = some nm := by rfl) (lt : (C8.fnScope st).names.lookup nm = some .local := by rfl)
    (hs : ∀ x, foldedSetIterable iter (BD P w K mg base N fx st f cdv A outer s H E).env x = pure x := by intro _; rfl) :
    DS (BD P w K mg base N fx st f cdv A outer s H E) (.Assign [.Name nm p] (.ListComp elt [⟨.Tuple [.Name n1 p1, .Name n2 p2, .Name n3 p3] kt pp, iter, [], 0⟩] scope pos) p4) ρ μ Φ :=
  ds_setLc (own := [(n1, i), (n2, j), (n3, k)]) S.nd (bd_three K i j k) (ts_nil _ _) (blkOk_by ok) (fun _ _ _ _ _ => pg_tup rfl (pgs_cons (pg_name (i := i) S.nd h1 (Or.inl l1) (.inr l1)) (pgs_cons (pg_name (i := j) S.nd h2 (Or.inl l2) (.inr l2)) (pgs_cons (pg_name (i := k) S.nd h3 (Or.inl l3) (.inr l3)) pgs_nil)))) hsw h ht lt rfl hs
end
/-! a comprehension by what holds ahead of the items that are left -/
theorem dlc_inv {X : Cx} {scope : Scope} {elt : Expr} {bd : PyData → Sl → Option Sl} {vs : List Nat} {ρ : Sl} {Kf : List PyData → Mu → Prop} {α : Type} {e : α → PyData} (I : List α → List PyData → Mu → Prop)
    (hs : ∀ a l acc m, I (a :: l) acc m → ∃ ρ', bd (e a) (wipeD ρ vs) = some ρ' ∧ ∀ D, m D = none → DUE X scope elt ρ' (put m D acc) fun x m' => ∃ p, x = .d p ∧ m' D = some acc ∧ I l (acc ++ [p]) (era m' D))
    (h0 : ∀ acc m, I [] acc m → Kf acc m) : ∀ (l : List α) (acc : List PyData) (m : Mu), I l acc m → DLc (lcTurn X scope elt (fun _ μ Q => Q true μ) bd vs ρ) Kf (l.map e) acc m
  | [], acc, m, h => h0 acc m h
  | a :: l, acc, m, h => by
    obtain ⟨ρ', hb, hd⟩ := hs a l acc m h
    refine ⟨ρ', hb, fun D hD => iteT fun s H0 C cl fp => (hd D hD s H0 C cl fp).imp fun x m' ⟨p, e1, e2, e3⟩ => ⟨p, e1, e2, ?_⟩⟩
    exact dlc_inv I hs h0 l _ _ e3
/-- .. that keeps some -/
theorem dlc_filter {X : Cx} {scope : Scope} {elt c : Expr} {bd : PyData → Sl → Option Sl} {vs : List Nat} {ρ : Sl} {Kf : List PyData → Mu → Prop} {α : Type} {e g : α → PyData} {t : α → Bool} {μ : Mu} :
    ∀ (l : List α) (acc : List PyData), (∀ a ∈ l, ∃ ρ', bd (e a) (wipeD ρ vs) = some ρ' ∧ ∀ m, DUT X scope c ρ' m (fun b m' => m' = m ∧ b = t a) ∧ (t a = true → DUE X scope elt ρ' m fun x m' => m' = m ∧ x = .d (g a))) → Kf (acc ++ (l.filter t).map g) μ →
    DLc (lcTurn X scope elt (DUT X scope c) bd vs ρ) Kf (l.map e) acc μ
  | [], acc, _, k => by
    rw [List.filter_nil, List.map_nil, List.append_nil] at k
    exact k
  | a :: l, acc, h, k => by
    obtain ⟨ρ', hb, hd⟩ := h a List.mem_cons_self
    refine ⟨ρ', hb, fun D hD s H0 C cl fp => ((hd _).1 s H0 C cl fp).imp fun b m' ⟨e1, e2⟩ => ?_⟩
    subst e1 e2
    by_cases ht : t a = true
    · rw [ht]
      refine iteT fun s H0 C cl fp => ((hd _).2 ht s H0 C cl fp).imp fun x m' ⟨e1, e2⟩ => ?_
      subst e1
      refine ⟨g a, e2, put_same, ?_⟩
      rw [era_put hD]
      refine dlc_filter l (acc ++ [g a]) (fun b hb' => h b (List.mem_cons_of_mem _ hb')) ?_
      rw [List.filter_cons, if_pos ht, List.map_cons] at k
      rw [List.append_assoc]
      exact k
    · have ht' : t a = false := by simpa using ht
      rw [ht']
      refine iteF ⟨put_same, ?_⟩
      rw [era_put hD]
      refine dlc_filter l acc (fun b hb' => h b (List.mem_cons_of_mem _ hb')) ?_
      rw [List.filter_cons, if_neg ht] at k
      exact k
end T12
end
section
set_option Elab.async false
set_option linter.all false
set_option maxRecDepth 100000
set_option maxHeartbeats 2000000
set_option exponentiation.threshold 5000
namespace T12
open PySem PySem.Spec PyProof.Rows L2
abbrev rowD (qs : List Rat) : PyData := .tuple (qs.map numD)
abbrev cornD (c : List Int) : PyData := .tuple (c.map .int)
structure Pc where
  corner : List Int
  rows : List (List Rat)
  shift : List Rat
def pieceD (p : Pc) : PyData := .tuple [cornD p.corner, .tuple (p.rows.map rowD), rowD p.shift]
/-- so wide -/
structure Pc.Wd (p : Pc) (n : Nat) : Prop where
  c : p.corner.length = n
  r : p.rows.length = n
  e : ∀ r ∈ p.rows, r.length = n
  s : p.shift.length = n
theorem bools_map {α : Type} {l : List α} {h : α → Bool} : [] ++ l.map (fun a => PyData.bool (h a)) = (l.map h).map .bool := by
  rw [List.map_map]; rfl
section
variable {P : Program} {w : World} {K : PySem.W.Frag} {mg : Str → Option Value} {base : Heap}
/-! need_point -/
abbrev sNeedPoint : Stmt := topS 29
theorem scNeedPoint : FnScope ["value", "wide", "part", "each"] ["value", "wide", "part"] (C8.fnScope sNeedPoint) := ⟨rfl, rfl, rfl, by decide +kernel, rfl, by decide +kernel, by decide +kernel⟩
def spNeedPoint : DSp := fun xs μ Q => ∃ (qs : List Rat) (s : Str), xs = [.d (rowD qs), .d (.int (qs.length : Nat)), .d (.str s)] ∧ qs.length ≤ 900 ∧ Q (.d (rowD qs)) μ
theorem all_true {α : Type} {l : List α} : (l.map fun _ => true).all id = true := by
  induction l with
  | nil => rfl
  | cons a l ih => exact ih
theorem ok_need_point {tk : Tok} (T : Tp K mg "need_point" sNeedPoint ["value", "wide", "part"] [Value.str "point" tk]) (B : Bl mg) (c_is_list : C8.Cal P w K mg base 1 "is_list" (spD K 1 spIsList) []) (c_is_number : C8.Cal P w K mg base 3 "is_number" (spD K 1 spIsNumber) [])
    (c_kept_number : C8.Cal P w K mg base 2 "kept_number" (spD K 1 spKeptNumber) []) : C8.Cal P w K mg base 4 "need_point" (spD K 3 spNeedPoint) [.str "point"] := by
  refine d_ok (k := 3) T (.cons ⟨tk, rfl⟩ .nil) scNeedPoint rfl fun f cdv A outer s H E hr xs μ Q hl ⟨qs, z, ex, hq9, hq⟩ => ?_
  subst ex
  refine dss_cons (ds_if (dt_w (dw_or (dt_not (dt_val (de_call c_is_list hr (by decide) (da_cons (dv 0 (da_nil ⟨rfl, ?_⟩)))))))))
  refine ⟨_, true, rfl, rfl, trivial, _, rfl, iteF ?_⟩
  refine dw_or (dt_cmp (dc_neI (de_len B.len (dv 0 ⟨_, rfl, dv 1 ⟨_, _, rfl, rfl, _, rfl, ?_⟩⟩))))
  rw [List.length_map, decide_eq_true rfl]
  refine iteF (dw_or1 (dt_not (dt_val (de_all B.all ?_))))
  refine lc1 3 scNeedPoint (di_tup (dv 0 ⟨_, rfl, ?_, ?_⟩))
  · rw [List.length_map]; omega
  refine dlc_map (e := numD) (g := fun _ => .bool true) qs [] (fun q _ => ⟨_, rfl, fun m s0 H0 C0 cl0 fp0 => de_call c_is_number hr (by decide) (da_cons (dv 3 (da_nil ⟨rfl, q, rfl, rfl, rfl⟩)))⟩) ?_
  refine ⟨_, congrArg (fun l => SV.d (.list l)) (bools_map (h := fun _ => true)), _, rfl, ?_⟩
  rw [all_true]
  refine iteF (dss_nil ?_)
  refine dss_cons (ds_ret (de_tuple B.tuple ?_))
  refine lc1 3 scNeedPoint (di_tup (dv 0 ⟨_, rfl, ?_, ?_⟩))
  · rw [List.length_map]; omega
  exact dlc_map (e := numD) (g := numD) qs [] (fun q _ => ⟨_, rfl, fun m s0 H0 C0 cl0 fp0 => de_call c_kept_number hr (by decide) (da_cons (dv 3 (da_nil ⟨rfl, q, rfl, rfl, rfl⟩)))⟩) ⟨_, rfl, hq⟩
/-! is_row -/
abbrev sIsRow : Stmt := topS 41
theorem scIsRow : FnScope ["value", "wide", "each"] ["value", "wide"] (C8.fnScope sIsRow) := ⟨rfl, rfl, rfl, by decide +kernel, rfl, by decide +kernel, by decide +kernel⟩
def spIsRow : DSp := fun xs μ Q => ∃ (qs : List Rat), xs = [.d (rowD qs), .d (.int (qs.length : Nat))] ∧ qs.length ≤ 900 ∧ Q (.d (.bool ((qs.map small).all id))) μ
theorem ok_is_row (T : Tp K mg "is_row" sIsRow ["value", "wide"] []) (B : Bl mg) (c_is_list : C8.Cal P w K mg base 1 "is_list" (spD K 1 spIsList) []) (c_is_small : C8.Cal P w K mg base 4 "is_small" (spD K 1 spIsSmall) []) : C8.Cal P w K mg base 5 "is_row" (spD K 2 spIsRow) [] := by
  refine d_ok (k := 4) T .nil scIsRow rfl fun f cdv A outer s H E hr xs μ Q hl ⟨qs, ex, hq9, hq⟩ => ?_
  subst ex
  refine dss_cons (ds_ret (de_and (de_call c_is_list hr (by decide) (da_cons (dv 0 (da_nil ⟨rfl, ?_⟩))))))
  refine ⟨_, true, rfl, rfl, trivial, _, rfl, iteT ?_⟩
  refine de_and (de_cmp (dc_eqI (de_len B.len (dv 0 ⟨_, rfl, dv 1 ⟨_, _, rfl, rfl, _, rfl, ?_⟩⟩))))
  rw [List.length_map, decide_eq_true rfl]
  refine iteT (de_one (de_all B.all ?_))
  refine lc1 2 scIsRow (di_tup (dv 0 ⟨_, rfl, ?_, ?_⟩))
  · rw [List.length_map]; omega
  refine dlc_map (e := numD) (g := fun q => .bool (small q)) qs [] (fun q _ => ⟨_, rfl, fun m s0 H0 C0 cl0 fp0 => de_call c_is_small hr (by decide) (da_cons (dv 2 (da_nil ⟨rfl, q, rfl, rfl, rfl⟩)))⟩) ?_
  exact ⟨_, congrArg (fun l => SV.d (.list l)) (bools_map (h := small)), hq⟩
/-! is_corner -/
def near (c : Int) : Bool := within c (some (-1000)) (some 1000)
abbrev sIsCorner : Stmt := topS 42
theorem scIsCorner : FnScope ["value", "wide", "each"] ["value", "wide"] (C8.fnScope sIsCorner) := ⟨rfl, rfl, rfl, by decide +kernel, rfl, by decide +kernel, by decide +kernel⟩
def spIsCorner : DSp := fun xs μ Q => ∃ (c : List Int), xs = [.d (cornD c), .d (.int (c.length : Nat))] ∧ c.length ≤ 900 ∧ Q (.d (.bool ((c.map near).all id))) μ
theorem ok_is_corner (T : Tp K mg "is_corner" sIsCorner ["value", "wide"] []) (B : Bl mg) (G : Gc mg) (c_is_list : C8.Cal P w K mg base 1 "is_list" (spD K 1 spIsList) []) (c_is_within : C8.Cal P w K mg base 2 "is_within" (spD K 3 spIsWithin) []) : C8.Cal P w K mg base 3 "is_corner" (spD K 2 spIsCorner) [] := by
  refine d_ok (k := 2) T .nil scIsCorner rfl fun f cdv A outer s H E hr xs μ Q hl ⟨c, ex, hq9, hq⟩ => ?_
  subst ex
  refine dss_cons (ds_ret (de_and (de_call c_is_list hr (by decide) (da_cons (dv 0 (da_nil ⟨rfl, ?_⟩))))))
  refine ⟨_, true, rfl, rfl, trivial, _, rfl, iteT ?_⟩
  refine de_and (de_cmp (dc_eqI (de_len B.len (dv 0 ⟨_, rfl, dv 1 ⟨_, _, rfl, rfl, _, rfl, ?_⟩⟩))))
  rw [List.length_map, decide_eq_true rfl]
  refine iteT (de_one (de_all B.all ?_))
  refine lc1 2 scIsCorner (di_tup (dv 0 ⟨_, rfl, ?_, ?_⟩))
  · rw [List.length_map]; omega
  refine dlc_map (e := PyData.int) (g := fun q => .bool (near q)) c [] (fun q _ => ⟨_, rfl, fun m s0 H0 C0 cl0 fp0 => ?_⟩) ?_
  · refine de_call c_is_within hr (by decide) (da_cons (dv 2 (da_cons (de_neg (dgc G.FARTHEST ⟨_, rfl, ?_⟩)))))
    exact da_cons (dgc G.FARTHEST (da_nil ⟨rfl, q, some (-1000), some 1000, rfl, rfl, rfl⟩))
  · exact ⟨_, congrArg (fun l => SV.d (.list l)) (bools_map (h := near)), hq⟩
/-! is_piece -/
def goodPc (p : Pc) : Bool := (p.corner.map near).all id && (p.shift.map small).all id && (p.rows.map fun r => (r.map small).all id).all id
abbrev sIsPiece : Stmt := topS 43
theorem scIsPiece : FnScope ["value", "wide", "row"] ["value", "wide"] (C8.fnScope sIsPiece) := ⟨rfl, rfl, rfl, by decide +kernel, rfl, by decide +kernel, by decide +kernel⟩
def spIsPiece : DSp := fun xs μ Q => ∃ (p : Pc) (n : Nat), xs = [.d (pieceD p), .d (.int (n : Nat))] ∧ p.Wd n ∧ n ≤ 900 ∧ Q (.d (.bool (goodPc p))) μ
theorem ok_is_piece (T : Tp K mg "is_piece" sIsPiece ["value", "wide"] []) (B : Bl mg) (c_is_list : C8.Cal P w K mg base 1 "is_list" (spD K 1 spIsList) []) (c_is_row : C8.Cal P w K mg base 5 "is_row" (spD K 2 spIsRow) []) (c_is_corner : C8.Cal P w K mg base 3 "is_corner" (spD K 2 spIsCorner) []) : C8.Cal P w K mg base 6 "is_piece" (spD K 2 spIsPiece) [] := by
  refine d_ok (k := 5) T .nil scIsPiece rfl fun f cdv A outer s H E hr xs μ Q hl ⟨p, n, ex, hw, hn9, hq⟩ => ?_
  subst ex
  unfold goodPc at hq
  refine dss_cons (ds_if (dt_w (dw_or (dt_not (dt_val (de_call c_is_list hr (by decide) (da_cons (dv 0 (da_nil ⟨rfl, ?_⟩)))))))))
  refine ⟨_, true, rfl, rfl, trivial, _, rfl, iteF ?_⟩
  refine dw_or (dt_cmp (dc_neI (de_len B.len (dv 0 ⟨_, rfl, de_int ⟨_, _, rfl, rfl, false, rfl, iteF ?_⟩⟩))))
  refine dw_or (dt_not (dt_val (de_call c_is_corner hr (by decide) (da_cons (de_ix (dv 0 (de_int ⟨_, _, _, rfl, rfl, rfl, ?_⟩)))))))
  refine da_cons (dv 1 (da_nil ⟨rfl, ?_⟩))
  refine ⟨p.corner, by rw [hw.c], by rw [hw.c]; exact hn9, _, rfl, ?_⟩
  by_cases h1 : (p.corner.map near).all id = true
  · rw [h1] at hq ⊢
    rw [Bool.true_and] at hq
    refine iteF (dw_or1 (dt_not (dt_val (de_call c_is_row hr (by decide) (da_cons (de_ix (dv 0 (de_int ⟨_, _, _, rfl, rfl, rfl, ?_⟩))))))))
    refine da_cons (dv 1 (da_nil ⟨rfl, ?_⟩))
    refine ⟨p.shift, by rw [hw.s], by rw [hw.s]; exact hn9, _, rfl, ?_⟩
    by_cases h2 : (p.shift.map small).all id = true
    · rw [h2] at hq ⊢
      rw [Bool.true_and] at hq
      refine iteF (dss_nil ?_)
      refine dss_cons (ds_ret (de_and (de_call c_is_list hr (by decide) (da_cons (de_ix (dv 0 (de_int ⟨_, _, _, rfl, rfl, rfl, da_nil ⟨rfl, ?_⟩⟩)))))))
      refine ⟨_, true, rfl, rfl, trivial, _, rfl, iteT ?_⟩
      refine de_and (de_cmp (dc_eqI (de_len B.len (de_ix (dv 0 (de_int ⟨_, _, _, rfl, rfl, rfl, _, rfl, dv 1 ⟨_, _, rfl, rfl, _, rfl, ?_⟩⟩))))))
      rw [List.length_map, hw.r, decide_eq_true rfl]
      refine iteT (de_one (de_all B.all ?_))
      refine lc1 2 scIsPiece (di_tup (de_ix (dv 0 (de_int ⟨_, _, _, rfl, rfl, rfl, _, rfl, ?_, ?_⟩))))
      · rw [List.length_map, hw.r]; omega
      refine dlc_map (e := rowD) (g := fun r => .bool ((r.map small).all id)) p.rows [] (fun r hm => ⟨_, rfl, fun m s0 H0 C0 cl0 fp0 => ?_⟩) ?_
      · exact de_call c_is_row hr (by decide) (da_cons (dv 2 (da_cons (dv 1 (da_nil ⟨rfl, r, by rw [hw.e r hm], by rw [hw.e r hm]; exact hn9, rfl, rfl⟩)))))
      · exact ⟨_, congrArg (fun l => SV.d (.list l)) (bools_map (h := fun r : List Rat => (r.map small).all id)), hq⟩
    · have h2' : (p.shift.map small).all id = false := by simpa using h2
      rw [h2'] at hq ⊢
      exact iteT (dss_cons (ds_ret (de_bl hq)))
  · have h1' : (p.corner.map near).all id = false := by simpa using h1
    rw [h1'] at hq ⊢
    exact iteT (dss_cons (ds_ret (de_bl hq)))
/-! kept_row, kept_piece -/
abbrev sKeptRow : Stmt := topS 44
theorem scKeptRow : FnScope ["row", "each"] ["row"] (C8.fnScope sKeptRow) := ⟨rfl, rfl, rfl, by decide +kernel, rfl, by decide +kernel, by decide +kernel⟩
def spKeptRow : DSp := fun xs μ Q => ∃ (qs : List Rat), xs = [.d (rowD qs)] ∧ qs.length ≤ 900 ∧ Q (.d (rowD qs)) μ
theorem ok_kept_row (T : Tp K mg "kept_row" sKeptRow ["row"] []) (B : Bl mg) (c_kept_number : C8.Cal P w K mg base 2 "kept_number" (spD K 1 spKeptNumber) []) : C8.Cal P w K mg base 3 "kept_row" (spD K 1 spKeptRow) [] := by
  refine d_ok (k := 2) T .nil scKeptRow rfl fun f cdv A outer s H E hr xs μ Q hl ⟨qs, ex, hq9, hq⟩ => ?_
  subst ex
  refine dss_cons (ds_ret (de_tuple B.tuple ?_))
  refine lc1 1 scKeptRow (di_tup (dv 0 ⟨_, rfl, ?_, ?_⟩))
  · rw [List.length_map]; omega
  exact dlc_map (e := numD) (g := numD) qs [] (fun q _ => ⟨_, rfl, fun m s0 H0 C0 cl0 fp0 => de_call c_kept_number hr (by decide) (da_cons (dv 1 (da_nil ⟨rfl, q, rfl, rfl, rfl⟩)))⟩) ⟨_, rfl, hq⟩
abbrev sKeptPiece : Stmt := topS 45
theorem scKeptPiece : FnScope ["piece", "row"] ["piece"] (C8.fnScope sKeptPiece) := ⟨rfl, rfl, rfl, by decide +kernel, rfl, by decide +kernel, by decide +kernel⟩
def spKeptPiece : DSp := fun xs μ Q => ∃ (p : Pc) (n : Nat), xs = [.d (pieceD p)] ∧ p.Wd n ∧ n ≤ 900 ∧ Q (.d (pieceD p)) μ
theorem ok_kept_piece (T : Tp K mg "kept_piece" sKeptPiece ["piece"] []) (B : Bl mg) (c_kept_row : C8.Cal P w K mg base 3 "kept_row" (spD K 1 spKeptRow) []) : C8.Cal P w K mg base 4 "kept_piece" (spD K 1 spKeptPiece) [] := by
  refine d_ok (k := 3) T .nil scKeptPiece rfl fun f cdv A outer s H E hr xs μ Q hl ⟨p, n, ex, hw, hn9, hq⟩ => ?_
  subst ex
  refine dss_cons (ds_ret (de_tup (da_cons (de_tuple B.tuple (de_ix (dv 0 (de_int ⟨_, _, _, rfl, rfl, rfl, _, rfl, ?_⟩)))))))
  refine da_cons (de_tuple B.tuple ?_)
  refine lc1 1 scKeptPiece (di_tup (de_ix (dv 0 (de_int ⟨_, _, _, rfl, rfl, rfl, _, rfl, ?_, ?_⟩))))
  · rw [List.length_map, hw.r]; omega
  refine dlc_map (e := rowD) (g := rowD) p.rows [] (fun r hm => ⟨_, rfl, fun m s0 H0 C0 cl0 fp0 => de_call c_kept_row hr (by decide) (da_cons (dv 1 (da_nil ⟨rfl, r, rfl, by rw [hw.e r hm]; exact hn9, rfl, rfl⟩)))⟩) ?_
  refine ⟨_, rfl, da_cons (de_call c_kept_row hr (by decide) (da_cons (de_ix (dv 0 (de_int ⟨_, _, _, rfl, rfl, rfl, da_nil ⟨rfl, ?_⟩⟩)))))⟩
  refine ⟨p.shift, rfl, by rw [hw.s]; exact hn9, da_nil ⟨_, rfl, rfl, hq⟩⟩
end
end T12
end
section
set_option Elab.async false
set_option linter.all false
set_option exponentiation.threshold 5000
namespace T12
open PySem
/-! what the defs reckon, in plain rationals -/
def heldQ (c : List Int) (qs : List Rat) : Bool := !((c.zip qs).map fun p => decide (p.2 < (p.1 : Rat)) || decide (((p.1 + 1 : Int) : Rat) < p.2)).any id
def dotQ (r qs : List Rat) : Rat := ((r.zip qs).map fun p => p.1 * p.2).sum
def ledQ (rows : List (List Rat)) (shift qs : List Rat) : List Rat := (rows.zip shift).map fun p => dotQ p.1 qs + p.2
def movedQ (p : Pc) (s : List Int) : Pc := ⟨(p.corner.zip s).map (fun x => x.1 + x.2), p.rows, (((p.shift.zip s).map fun x => x.1 + (x.2 : Rat)).zip p.rows).map fun x => x.1 - dotQ x.2 (s.map fun i : Int => (i : Rat))⟩
def mirQ (p : Pc) : Pc := ⟨p.corner.map (fun c => -c - 1), p.rows, p.shift.map fun q => q * ((-1 : Int) : Rat)⟩
/-- sizes -/
def Gd (D : Nat) : Prop := 0 < D ∧ D < 2 ^ 400
def Nar (N : Nat) : Prop := N < 2 ^ 400
theorem mul800 {a b : Nat} (ha : a < 2 ^ 400) (hb : b < 2 ^ 400) : a * b < 2 ^ 800 := by
  rw [show (800 : Nat) = 400 + 400 from rfl, Nat.pow_add]
  exact Nat.mul_lt_mul'' ha hb
theorem lt800 {a : Nat} (h : a < 2 ^ 400) : a < 2 ^ 800 := Nat.lt_trans h (Nat.pow_lt_pow_right (by decide) (by decide))
theorem far_of {a : Nat} (h : a < 2 ^ 800) : Far a := Nat.lt_trans h (Nat.pow_lt_pow_right (by decide) (by decide))
theorem Wi.smN {D N : Nat} {q : Rat} (h : Wi D N q) (h1 : Gd D) (h2 : Nar N) : Sm q := h.sm (far1000 (far_of (lt800 h1.2))) (far1000 (far_of (lt800 h2)))
theorem dot_wi {D1 N1 D2 N2 : Nat} (h1 : 0 < D1) (h2 : 0 < D2) : ∀ {r qs : List Rat}, (∀ a ∈ r, Wi D1 N1 a) → (∀ b ∈ qs, Wi D2 N2 b) → Wi (D1 * D2) ((r.zip qs).length * (N1 * N2)) (dotQ r qs)
  | [], _, _, _ => by
    show Wi (D1 * D2) (0 * (N1 * N2)) 0
    rw [Nat.zero_mul]; exact Wi.zero (Nat.mul_pos h1 h2)
  | _ :: _, [], _, _ => by
    show Wi (D1 * D2) (0 * (N1 * N2)) 0
    rw [Nat.zero_mul]; exact Wi.zero (Nat.mul_pos h1 h2)
  | a :: r, b :: qs, ha, hb => by
    have ih := dot_wi h1 h2 (r := r) (qs := qs) (fun x hx => ha x (List.mem_cons_of_mem _ hx)) (fun x hx => hb x (List.mem_cons_of_mem _ hx))
    have := ((ha a List.mem_cons_self).mul (hb b List.mem_cons_self)).add ih
    rw [show dotQ (a :: r) (b :: qs) = a * b + dotQ r qs by unfold dotQ; rw [List.zip_cons_cons, List.map_cons, List.sum_cons]]
    refine this.mono ?_
    rw [List.zip_cons_cons, List.length_cons, Nat.add_mul]
    omega
theorem zip_len_le {α β : Type} (l : List α) (r : List β) : (l.zip r).length ≤ l.length := by rw [List.length_zip]; exact Nat.min_le_left _ _
theorem dot_sm {D1 N1 D2 N2 : Nat} (h1 : Gd D1) (h2 : Gd D2) (n1 : Nar N1) (n2 : Nar N2) {r qs : List Rat} (hr : ∀ a ∈ r, Wi D1 N1 a) (hq : ∀ b ∈ qs, Wi D2 N2 b) (hl : r.length ≤ 4) : Sm (dotQ r qs) := by
  have w := (dot_wi h1.1 h2.1 hr hq).mono (N' := 4 * (N1 * N2)) (Nat.mul_le_mul_right _ (Nat.le_trans (zip_len_le r qs) hl))
  exact w.sm (far1000 (far_of (mul800 h1.2 h2.2))) (far8 (far_of (mul800 n1 n2)) (by decide))
theorem mem_zip_l {α β : Type} {l : List α} {r : List β} {p : α × β} (h : p ∈ l.zip r) : p.1 ∈ l := (List.of_mem_zip h).1
theorem mem_zip_r {α β : Type} {l : List α} {r : List β} {p : α × β} (h : p ∈ l.zip r) : p.2 ∈ r := (List.of_mem_zip h).2
end T12
end
section
set_option Elab.async false
set_option linter.all false
set_option maxRecDepth 100000
set_option maxHeartbeats 2000000
set_option exponentiation.threshold 5000
namespace T12
open PySem PySem.Spec PyProof.Rows L2
section
variable {P : Program} {w : World} {K : PySem.W.Frag} {mg : Str → Option Value} {base : Heap}
abbrev sHeldIn : Stmt := topS 50
theorem scHeldIn : FnScope ["piece", "point", "least", "number"] ["piece", "point"] (C8.fnScope sHeldIn) := ⟨rfl, rfl, rfl, by decide +kernel, rfl, by decide +kernel, by decide +kernel⟩
def spHeldIn : DSp := fun xs μ Q => ∃ (p : Pc) (qs : List Rat), xs = [.d (pieceD p), .d (rowD qs)] ∧ p.corner.length ≤ 900 ∧ (∀ c ∈ p.corner, c.natAbs < 2 ^ 800) ∧ (∀ q ∈ qs, Sm q) ∧ Q (.d (.bool (heldQ p.corner qs))) μ
theorem ok_held_in (T : Tp K mg "held_in" sHeldIn ["piece", "point"] []) (B : Bl mg) (c_below_in : C8.Cal P w K mg base 3 "below_in" (spD K 2 spBelowIn) []) : C8.Cal P w K mg base 4 "held_in" (spD K 2 spHeldIn) [] := by
  refine d_ok (k := 3) T .nil scHeldIn rfl fun f cdv A outer s H E hr xs μ Q hl ⟨p, qs, ex, hn, hc, hs, hq⟩ => ?_
  subst ex
  refine dss_cons (ds_ret (de_not (de_any B.any (lc2 2 3 scHeldIn ?_))))
  refine di_zip2 B.zip (de_ix (dv 0 (de_int ⟨_, _, _, rfl, rfl, rfl, dv 1 ⟨_, _, _, _, p.corner.map .int, qs.map numD, rfl, rfl, rfl, rfl, ?_, ?_⟩⟩)))
  · rw [zip2D_map, List.length_map]; exact Nat.le_trans (zip_len_le _ _) (by omega)
  rw [zip2D_map]
  refine dlc_map (e := fun p : Int × Rat => .tuple [.int p.1, numD p.2]) (g := fun p : Int × Rat => .bool (decide (p.2 < (p.1 : Rat)) || decide (((p.1 + 1 : Int) : Rat) < p.2))) (p.corner.zip qs) [] (fun z hz => ⟨_, rfl, fun m s0 H0 C0 cl0 fp0 => ?_⟩) ?_
  · have h1 := hc _ (mem_zip_l hz)
    have h2 := hs _ (mem_zip_r hz)
    refine de_or (de_call c_below_in hr (by decide) (da_cons (dv 3 (da_cons (dv 2 (da_nil ⟨rfl, z.2, (z.1 : Rat), by rw [numD_int], h2, sm_int ?_, ?_⟩))))))
    · exact Nat.lt_trans h1 (Nat.pow_lt_pow_right (by decide) (by decide))
    refine ⟨_, rfl, ite2 (fun hb => ?_) (fun hb => ?_)⟩
    · rw [hb]; exact ⟨rfl, rfl⟩
    · refine de_one (de_call c_below_in hr (by decide) (da_cons (de_add (dv 2 (de_int ⟨_, _, rfl, rfl, ?_⟩)))))
      refine da_cons (dv 3 (da_nil ⟨rfl, ((z.1 + 1 : Int) : Rat), z.2, by rw [numD_int], sm_int ?_, h2, ?_⟩))
      · have : (2:Nat) ^ 900 = 2 ^ 100 * 2 ^ 800 := by rw [← Nat.pow_add]
        have h3 : (2:Nat) ^ 800 ≥ 2 := Nat.le_of_ble_eq_true rfl
        omega
      · rw [show decide (z.2 < (z.1 : Rat)) = false by simpa using hb, Bool.false_or]
        exact ⟨rfl, rfl⟩
  · exact ⟨_, congrArg (fun l => SV.d (.list l)) (bools_map (h := fun p : Int × Rat => decide (p.2 < (p.1 : Rat)) || decide (((p.1 + 1 : Int) : Rat) < p.2))), _, rfl, hq⟩
abbrev sTimesRow : Stmt := topS 51
theorem scTimesRow : FnScope ["row", "point", "mine", "its"] ["row", "point"] (C8.fnScope sTimesRow) := ⟨rfl, rfl, rfl, by decide +kernel, rfl, by decide +kernel, by decide +kernel⟩
def spTimesRow : DSp := fun xs μ Q => ∃ (y : PyData) (k : Kd) (r qs : List Rat) (D1 N1 D2 N2 : Nat), xs = [.d (rowD r), .d y] ∧ seqD y = some (k, qs.map numD) ∧ r.length ≤ 4 ∧ (∀ a ∈ r, Wi D1 N1 a) ∧ (∀ b ∈ qs, Wi D2 N2 b) ∧ Gd D1 ∧ Gd D2 ∧ Nar N1 ∧ Nar N2 ∧ Q (.d (numD (dotQ r qs))) μ
theorem ok_times_row (T : Tp K mg "times_row" sTimesRow ["row", "point"] []) (B : Bl mg) (c_times_in : C8.Cal P w K mg base 3 "times_in" (spD K 2 spTimesIn) []) (c_total : C8.Cal P w K mg base 4 "total" (spD K 1 spTotal) []) : C8.Cal P w K mg base 5 "times_row" (spD K 2 spTimesRow) [] := by
  refine d_ok (k := 4) T .nil scTimesRow rfl fun f cdv A outer s H E hr xs μ Q hl ⟨y, k, r, qs, D1, N1, D2, N2, ex, hy, hn, hw1, hw2, d1, d2, n1, n2, hq⟩ => ?_
  subst ex
  refine dss_cons (ds_ret (de_call c_total hr (by decide) (da_cons (lc2 2 3 scTimesRow ?_))))
  refine di_zip2 B.zip (dv 0 (dv 1 ⟨_, _, _, _, r.map numD, qs.map numD, rfl, rfl, rfl, hy, ?_, ?_⟩))
  · rw [zip2D_map, List.length_map]; exact Nat.le_trans (zip_len_le _ _) (by omega)
  rw [zip2D_map]
  refine dlc_map (e := fun p : Rat × Rat => .tuple [numD p.1, numD p.2]) (g := fun p : Rat × Rat => numD (p.1 * p.2)) (r.zip qs) [] (fun z hz => ⟨_, rfl, fun m s0 H0 C0 cl0 fp0 => ?_⟩) ?_
  · exact de_call c_times_in hr (by decide) (da_cons (dv 2 (da_cons (dv 3 (da_nil ⟨rfl, z.1, z.2, rfl, (hw1 _ (mem_zip_l hz)).smN d1 n1, (hw2 _ (mem_zip_r hz)).smN d2 n2, rfl, rfl⟩)))))
  · refine da_nil ⟨rfl, (r.zip qs).map (fun p => p.1 * p.2), D1 * D2, N1 * N2, by rw [List.map_map]; rfl, ?_, by rw [List.length_map]; exact Nat.le_trans (zip_len_le _ _) hn, far_of (mul800 d1.2 d2.2), far_of (mul800 n1 n2), hq⟩
    intro q hq'
    obtain ⟨z, hz, rfl⟩ := List.mem_map.mp hq'
    exact (hw1 _ (mem_zip_l hz)).mul (hw2 _ (mem_zip_r hz))
abbrev sLedIn : Stmt := topS 52
theorem scLedIn : FnScope ["piece", "point", "row", "more"] ["piece", "point"] (C8.fnScope sLedIn) := ⟨rfl, rfl, rfl, by decide +kernel, rfl, by decide +kernel, by decide +kernel⟩
/-- rows and shift of a piece within bounds -/
structure Pc.In (p : Pc) (D N : Nat) : Prop where
  c : ∀ c ∈ p.corner, c.natAbs < 2 ^ 800
  r : ∀ r ∈ p.rows, r.length ≤ 2 ∧ ∀ a ∈ r, Wi D N a
  s : ∀ a ∈ p.shift, Wi D N a
  l : p.corner.length ≤ 2 ∧ p.rows.length ≤ 2 ∧ p.shift.length ≤ 2
def spLedIn : DSp := fun xs μ Q => ∃ (p : Pc) (qs : List Rat) (D1 N1 D2 N2 : Nat), xs = [.d (pieceD p), .d (rowD qs)] ∧ p.In D1 N1 ∧ (∀ b ∈ qs, Wi D2 N2 b) ∧ Gd D1 ∧ Gd D2 ∧ Nar N1 ∧ Nar N2 ∧ Q (.d (rowD (ledQ p.rows p.shift qs))) μ
theorem ok_led_in (T : Tp K mg "led_in" sLedIn ["piece", "point"] []) (B : Bl mg) (c_plus_in : C8.Cal P w K mg base 3 "plus_in" (spD K 2 spPlusIn) []) (c_times_row : C8.Cal P w K mg base 5 "times_row" (spD K 2 spTimesRow) []) : C8.Cal P w K mg base 6 "led_in" (spD K 2 spLedIn) [] := by
  refine d_ok (k := 5) T .nil scLedIn rfl fun f cdv A outer s H E hr xs μ Q hl ⟨p, qs, D1, N1, D2, N2, ex, hp, hw2, d1, d2, n1, n2, hq⟩ => ?_
  subst ex
  refine dss_cons (ds_ret (de_tuple B.tuple (lc2 2 3 scLedIn ?_)))
  refine di_zip2 B.zip (de_ix (dv 0 (de_int ⟨_, _, _, rfl, rfl, rfl, ?_⟩)))
  refine de_ix (dv 0 (de_int ⟨_, _, _, rfl, rfl, rfl, _, _, _, _, p.rows.map rowD, p.shift.map numD, rfl, rfl, rfl, rfl, ?_, ?_⟩))
  · rw [zip2D_map, List.length_map]; have := zip_len_le p.rows p.shift; have := hp.l.2.1; omega
  rw [zip2D_map]
  refine dlc_map (e := fun p : List Rat × Rat => .tuple [rowD p.1, numD p.2]) (g := fun p : List Rat × Rat => numD (dotQ p.1 qs + p.2)) (p.rows.zip p.shift) [] (fun z hz => ⟨_, rfl, fun m s0 H0 C0 cl0 fp0 => ?_⟩) ?_
  · obtain ⟨hz1, hz2⟩ := hp.r _ (mem_zip_l hz)
    refine de_call c_plus_in hr (by decide) (da_cons (de_call c_times_row hr (by decide) (da_cons (dv 2 (da_cons (dv 1 (da_nil ?_)))))))
    refine ⟨rfl, _, _, z.1, qs, D1, N1, D2, N2, rfl, rfl, by omega, hz2, hw2, d1, d2, n1, n2, ?_⟩
    exact da_cons (dv 3 (da_nil ⟨rfl, dotQ z.1 qs, z.2, rfl, dot_sm d1 d2 n1 n2 hz2 hw2 (by omega), (hp.s _ (mem_zip_r hz)).smN d1 n1, rfl, rfl⟩))
  · refine ⟨_, rfl, ?_⟩
    rw [List.nil_append, show List.map (fun p : List Rat × Rat => numD (dotQ p.1 qs + p.2)) (p.rows.zip p.shift) = (ledQ p.rows p.shift qs).map numD by unfold ledQ; rw [List.map_map]; rfl]
    exact hq
end
end T12
end
section
set_option Elab.async false
set_option linter.all false
set_option maxRecDepth 100000
set_option maxHeartbeats 2000000
set_option exponentiation.threshold 5000
namespace T12
open PySem PySem.Spec PyProof.Rows L2
section
variable {P : Program} {w : World} {K : PySem.W.Frag} {mg : Str → Option Value} {base : Heap}
theorem zip_map {α β γ δ : Type} (e : α → γ) (f : β → δ) : ∀ (l : List α) (r : List β), (l.map e).zip (r.map f) = (l.zip r).map fun p => (e p.1, f p.2)
  | [], _ => rfl
  | _ :: _, [] => rfl
  | a :: l, b :: r => congrArg ((e a, f b) :: ·) (zip_map e f l r)
abbrev sMovedPiece : Stmt := topS 55
theorem scMovedPiece : FnScope ["piece", "shift", "corner", "rows", "more", "there", "led", "number", "step", "row"] ["piece", "shift"] (C8.fnScope sMovedPiece) := ⟨rfl, rfl, rfl, by decide +kernel, rfl, by decide +kernel, by decide +kernel⟩
theorem small_sm {i : Int} (h : i.natAbs < 2 ^ 100) : Sm (i : Rat) := sm_int (Nat.lt_trans h (Nat.pow_lt_pow_right (by decide) (by decide)))
theorem pow100 {a b : Nat} (h : a < 2 ^ b) (hb : b ≤ 400) : a < 2 ^ 400 := Nat.lt_of_lt_of_le h (Nat.pow_le_pow_right (by decide) hb)
def spMovedPiece : DSp := fun xs μ Q => ∃ (p : Pc) (y : PyData) (k : Kd) (s : List Int) (D N : Nat), xs = [.d (pieceD p), .d y] ∧ seqD y = some (k, s.map .int) ∧ p.In D N ∧ Gd D ∧ N < 2 ^ 100 ∧ D < 2 ^ 100 ∧ (∀ i ∈ s, i.natAbs < 2 ^ 100) ∧ Q (.d (pieceD (movedQ p s))) μ
theorem ints_rats {s : List Int} : s.map PyData.int = (s.map fun i : Int => (i : Rat)).map numD := by
  rw [List.map_map]
  exact List.map_congr_left fun i _ => (numD_int i).symm
theorem wi_int {D : Nat} {i : Int} (hD : 0 < D) (h : i.natAbs < 2 ^ 100) : Wi D (2 ^ 100 * D) (i : Rat) := Wi.int hD (Nat.le_of_lt h)
theorem ok_moved_piece (T : Tp K mg "moved_piece" sMovedPiece ["piece", "shift"] []) (B : Bl mg) (c_plus_in : C8.Cal P w K mg base 3 "plus_in" (spD K 2 spPlusIn) []) (c_minus_in : C8.Cal P w K mg base 4 "minus_in" (spD K 2 spMinusIn) []) (c_times_row : C8.Cal P w K mg base 5 "times_row" (spD K 2 spTimesRow) []) : C8.Cal P w K mg base 6 "moved_piece" (spD K 2 spMovedPiece) [] := by
  refine d_ok (k := 5) T .nil scMovedPiece rfl fun f cdv A outer s H E hr xs μ Q hl ⟨p, y, k, sh, D, N, ex, hy, hp, d1, n1, dd, hs, hq⟩ => ?_
  subst ex
  have hN : Nar N := pow100 n1 (by decide)
  refine dss_cons (ds_asg (dv 0 (dg_tup rfl ⟨_, rfl, rfl, dgs_cons (dg_name (i := 2) scMovedPiece.nd (dgs_cons (dg_name (i := 3) scMovedPiece.nd (dgs_cons (dg_name (i := 4) scMovedPiece.nd (dgs_nil ?_))))))⟩)))
  refine dss_cons (slc2 5 7 8 scMovedPiece ?_)
  refine di_zip2 B.zip (dv 4 (dv 1 ⟨_, _, _, _, p.shift.map numD, sh.map .int, rfl, rfl, rfl, hy, ?_, ?_⟩))
  · rw [zip2D_map, List.length_map]; have := zip_len_le p.shift sh; have := hp.l.2.2; omega
  rw [zip2D_map]
  refine dlc_map (e := fun p : Rat × Int => .tuple [numD p.1, .int p.2]) (g := fun p : Rat × Int => numD (p.1 + (p.2 : Rat))) (p.shift.zip sh) [] (fun z hz => ⟨_, rfl, fun m s0 H0 C0 cl0 fp0 => ?_⟩) ?_
  · exact de_call c_plus_in hr (by decide) (da_cons (dv 7 (da_cons (dv 8 (da_nil ⟨rfl, z.1, (z.2 : Rat), by rw [numD_int], (hp.s _ (mem_zip_l hz)).smN d1 hN, small_sm (hs _ (mem_zip_r hz)), rfl, rfl⟩)))))
  refine dss_cons (slc2 6 7 9 scMovedPiece ?_)
  refine di_zip2 B.zip (dv 5 (dv 3 ⟨_, _, .l, _, ((p.shift.zip sh).map fun x : Rat × Int => x.1 + (x.2 : Rat)).map numD, p.rows.map rowD, rfl, rfl, ?_, rfl, ?_, ?_⟩))
  · rw [List.map_map]; rfl
  · rw [zip2D_map, List.length_map]
    have := zip_len_le ((p.shift.zip sh).map fun x : Rat × Int => x.1 + (x.2 : Rat)) p.rows
    rw [List.length_map] at this
    have := zip_len_le p.shift sh; have := hp.l.2.2; omega
  rw [zip2D_map]
  refine dlc_map (e := fun p : Rat × List Rat => .tuple [numD p.1, rowD p.2]) (g := fun p : Rat × List Rat => numD (p.1 - dotQ p.2 (sh.map fun i : Int => (i : Rat)))) _ [] (fun z hz => ⟨_, rfl, fun m s0 H0 C0 cl0 fp0 => ?_⟩) ?_
  · obtain ⟨hz1, hz2⟩ := hp.r _ (mem_zip_r hz)
    have hw2 : ∀ b ∈ sh.map (fun i : Int => (i : Rat)), Wi 1 (2 ^ 100 * 1) b := fun b hb => by
      obtain ⟨i, hi, rfl⟩ := List.mem_map.mp hb
      exact wi_int (by decide) (hs i hi)
    have g1 : Gd 1 := ⟨by decide, Nat.one_lt_two_pow (by decide)⟩
    have g2 : Nar (2 ^ 100 * 1) := by unfold Nar; rw [Nat.mul_one]; exact Nat.pow_lt_pow_right (by decide) (by decide)
    refine de_call c_minus_in hr (by decide) (da_cons (dv 7 (da_cons (de_call c_times_row hr (by decide) (da_cons (dv 9 (da_cons (dv 1 (da_nil ?_)))))))))
    refine ⟨rfl, _, _, z.2, sh.map (fun i : Int => (i : Rat)), D, N, 1, 2 ^ 100 * 1, rfl, by rw [← ints_rats]; exact hy, by omega, hz2, hw2, d1, g1, hN, g2, ?_⟩
    refine da_nil ⟨rfl, z.1, dotQ z.2 (sh.map fun i : Int => (i : Rat)), rfl, ?_, dot_sm d1 g1 hN g2 hz2 hw2 (by omega), rfl, rfl⟩
    obtain ⟨u, hu, he⟩ := List.mem_map.mp (mem_zip_l hz)
    rw [← he]
    have a1 := hp.s _ (mem_zip_l hu)
    have a2 := wi_int (D := D) d1.1 (hs _ (mem_zip_r hu))
    refine (a1.add a2).sm (far1000 (far_of (lt800 d1.2))) (far1000 (far_of ?_))
    have : 2 ^ 100 * D < 2 ^ 200 := by
      rw [show (200 : Nat) = 100 + 100 from rfl, Nat.pow_add]
      exact Nat.mul_lt_mul_of_pos_left dd (by decide)
    have h3 : (2:Nat) ^ 800 ≥ 2 ^ 200 + 2 ^ 200 := by
      rw [← Nat.mul_two, ← Nat.pow_succ]
      exact Nat.pow_le_pow_right (by decide) (by decide)
    have h4 : (2:Nat) ^ 100 ≤ 2 ^ 200 := Nat.pow_le_pow_right (by decide) (by decide)
    omega
  refine dss_cons (ds_ret (de_tup (da_cons (de_tuple B.tuple (lc2 7 8 scMovedPiece ?_)))))
  refine di_zip2 B.zip (dv 2 (dv 1 ⟨_, _, _, _, p.corner.map .int, sh.map .int, rfl, rfl, rfl, hy, ?_, ?_⟩))
  · rw [zip2D_map, List.length_map]; have := zip_len_le p.corner sh; have := hp.l.1; omega
  rw [zip2D_map]
  refine dlc_map (e := fun p : Int × Int => .tuple [.int p.1, .int p.2]) (g := fun p : Int × Int => .int (p.1 + p.2)) _ [] (fun z hz => ⟨_, rfl, fun m s0 H0 C0 cl0 fp0 => ?_⟩) ?_
  · exact de_add (dv 7 (dv 8 ⟨_, _, rfl, rfl, rfl, rfl⟩))
  refine ⟨_, rfl, da_cons (dv 3 (da_cons (de_tuple B.tuple (dv 6 ⟨_, rfl, da_nil ⟨_, rfl, rfl, ?_⟩⟩))))⟩
  unfold pieceD movedQ at hq
  simp only [List.nil_append]
  simp only [rowD, cornD, List.map_map] at hq ⊢
  exact hq
abbrev sMirroredPiece : Stmt := topS 56
theorem scMirroredPiece : FnScope ["piece", "corner", "rows", "more", "number"] ["piece"] (C8.fnScope sMirroredPiece) := ⟨rfl, rfl, rfl, by decide +kernel, rfl, by decide +kernel, by decide +kernel⟩
def spMirroredPiece : DSp := fun xs μ Q => ∃ (p : Pc) (D N : Nat), xs = [.d (pieceD p)] ∧ p.In D N ∧ Gd D ∧ Nar N ∧ Q (.d (pieceD (mirQ p))) μ
theorem ok_mirrored_piece (T : Tp K mg "mirrored_piece" sMirroredPiece ["piece"] []) (B : Bl mg) (c_times_in : C8.Cal P w K mg base 3 "times_in" (spD K 2 spTimesIn) []) : C8.Cal P w K mg base 4 "mirrored_piece" (spD K 1 spMirroredPiece) [] := by
  refine d_ok (k := 3) T .nil scMirroredPiece rfl fun f cdv A outer s H E hr xs μ Q hl ⟨p, D, N, ex, hp, d1, n1, hq⟩ => ?_
  subst ex
  refine dss_cons (ds_asg (dv 0 (dg_tup rfl ⟨_, rfl, rfl, dgs_cons (dg_name (i := 1) scMirroredPiece.nd (dgs_cons (dg_name (i := 2) scMirroredPiece.nd (dgs_cons (dg_name (i := 3) scMirroredPiece.nd (dgs_nil ?_))))))⟩)))
  refine dss_cons (ds_ret (de_tup (da_cons (de_tuple B.tuple (lc1 4 scMirroredPiece ?_)))))
  refine di_tup (dv 1 ⟨_, rfl, ?_, ?_⟩)
  · rw [List.length_map]; have := hp.l.1; omega
  refine dlc_map (e := PyData.int) (g := fun c : Int => .int (-c - 1)) p.corner [] (fun z hz => ⟨_, rfl, fun m s0 H0 C0 cl0 fp0 => ?_⟩) ?_
  · exact de_sub (de_neg (dv 4 ⟨_, rfl, de_int ⟨_, _, rfl, rfl, rfl, rfl⟩⟩))
  refine ⟨_, rfl, da_cons (dv 2 (da_cons (de_tuple B.tuple (lc1 4 scMirroredPiece ?_))))⟩
  refine di_tup (dv 3 ⟨_, rfl, ?_, ?_⟩)
  · rw [List.length_map]; have := hp.l.2.2; omega
  refine dlc_map (e := numD) (g := fun q : Rat => numD (q * ((-1 : Int) : Rat))) p.shift [] (fun z hz => ⟨_, rfl, fun m s0 H0 C0 cl0 fp0 => ?_⟩) ?_
  · exact de_call c_times_in hr (by decide) (da_cons (dv 4 (da_cons (de_neg (de_int ⟨_, rfl, da_nil ⟨rfl, z, ((-1 : Int) : Rat), by rw [numD_int], (hp.s _ hz).smN d1 n1, sm_int (by decide), rfl, rfl⟩⟩)))))
  refine ⟨_, rfl, da_nil ⟨_, rfl, rfl, ?_⟩⟩
  unfold pieceD mirQ at hq
  simp only [List.nil_append]
  simp only [rowD, cornD, List.map_map] at hq ⊢
  exact hq
end
end T12
end
section
set_option Elab.async false
set_option linter.all false
set_option exponentiation.threshold 5000
namespace T12
open PySem
/-! bounds by bits -/
structure Pk (p : Pc) : Prop where
  ex : ∃ D N, 0 < D ∧ D ≤ 2 ^ 30 ∧ N ≤ 2 ^ 30 ∧ p.In D N
def Pw (a : Nat) (qs : List Rat) : Prop := qs.length ≤ 2 ∧ ∃ D N, 0 < D ∧ D ≤ 2 ^ a ∧ N ≤ 2 ^ a ∧ ∀ q ∈ qs, Wi D N q
theorem le400 {a n : Nat} (h : n ≤ 2 ^ a) (ha : a ≤ 390) : n < 2 ^ 400 := Nat.lt_of_le_of_lt h (Nat.pow_lt_pow_right (by decide) (by omega))
theorem Pw.mono {a b : Nat} {qs : List Rat} (h : Pw a qs) (hb : a ≤ b) : Pw b qs :=
  ⟨h.1, let ⟨D, N, h0, h1, h2, h3⟩ := h.2; ⟨D, N, h0, Nat.le_trans h1 (Nat.pow_le_pow_right (by decide) hb), Nat.le_trans h2 (Nat.pow_le_pow_right (by decide) hb), h3⟩⟩
theorem Pw.sm {a : Nat} {qs : List Rat} (h : Pw a qs) (ha : a ≤ 390) : ∀ q ∈ qs, Sm q := fun q hq => by
  obtain ⟨_, D, N, h0, h1, h2, h3⟩ := h
  exact (h3 q hq).smN ⟨h0, le400 h1 ha⟩ (le400 h2 ha)
theorem led_len (rows : List (List Rat)) (shift qs : List Rat) : (ledQ rows shift qs).length ≤ rows.length := by
  unfold ledQ; rw [List.length_map]; exact zip_len_le _ _
theorem led_wi {D N D2 N2 : Nat} (h0 : 0 < D) (h2 : 0 < D2) {rows : List (List Rat)} {shift qs : List Rat} (hr : ∀ r ∈ rows, r.length ≤ 2 ∧ ∀ a ∈ r, Wi D N a) (hs : ∀ a ∈ shift, Wi D N a) (hq : ∀ b ∈ qs, Wi D2 N2 b) :
    ∀ q ∈ ledQ rows shift qs, Wi (D * D2) (2 * (N * N2) + N * D2) q := fun q hm => by
  unfold ledQ at hm
  obtain ⟨z, hz, rfl⟩ := List.mem_map.mp hm
  obtain ⟨h1, h3⟩ := hr _ (mem_zip_l hz)
  have w1 := (dot_wi h0 h2 h3 hq).mono (N' := 2 * (N * N2)) (Nat.mul_le_mul_right _ (Nat.le_trans (zip_len_le _ _) h1))
  exact w1.add ((hs _ (mem_zip_r hz)).scale h2)
theorem led_pw {a : Nat} {p : Pc} {qs : List Rat} (hp : Pk p) (hq : Pw a qs) : Pw (a + 32) (ledQ p.rows p.shift qs) := by
  obtain ⟨D, N, h0, h1, h2, hi⟩ := hp.ex
  obtain ⟨hl, D2, N2, k0, k1, k2, hw⟩ := hq
  refine ⟨Nat.le_trans (led_len _ _ _) hi.l.2.1, D * D2, 2 * (N * N2) + N * D2, Nat.mul_pos h0 k0, ?_, ?_, led_wi h0 k0 hi.r hi.s hw⟩
  · have e : 2 ^ (a + 32) = 2 ^ 32 * 2 ^ a := by rw [Nat.pow_add, Nat.mul_comm]
    rw [e]
    exact Nat.mul_le_mul (Nat.le_trans h1 (by decide)) k1
  · have e : 2 ^ (a + 32) = 4 * (2 ^ 30 * 2 ^ a) := by rw [Nat.pow_add, Nat.mul_comm, ← Nat.mul_assoc]
    have m1 : N * N2 ≤ 2 ^ 30 * 2 ^ a := Nat.mul_le_mul h2 k2
    have m2 : N * D2 ≤ 2 ^ 30 * 2 ^ a := Nat.mul_le_mul h2 k1
    omega
/-- the points behind this one -/
def stepsQ (ps : List Pc) : List Rat → List Nat → List (List Rat)
  | _, [] => []
  | cur, n :: way => match ps[n]? with
    | none => []
    | some p => if heldQ p.corner cur = true then ledQ p.rows p.shift cur :: stepsQ ps (ledQ p.rows p.shift cur) way else []
def runQ (ps : List Pc) (cur : List Rat) (way : List Nat) : List (List Rat) := cur :: stepsQ ps cur way
theorem steps_le (ps : List Pc) : ∀ (way : List Nat) (cur : List Rat), (stepsQ ps cur way).length ≤ way.length
  | [], _ => Nat.le_refl _
  | n :: way, cur => by
    unfold stepsQ
    split
    · exact Nat.zero_le _
    · split
      · rw [List.length_cons, List.length_cons]; exact Nat.succ_le_succ (steps_le ps way _)
      · exact Nat.zero_le _
theorem steps_pw {ps : List Pc} (hp : ∀ p ∈ ps, Pk p) : ∀ (way : List Nat) (cur : List Rat) (a : Nat), Pw a cur → ∀ q ∈ stepsQ ps cur way, Pw (a + 32 * way.length) q
  | [], _, _, _, _, h => by cases h
  | n :: way, cur, a, hc, q, h => by
    unfold stepsQ at h
    split at h
    · cases h
    · rename_i p hn
      have hk := hp p (List.mem_of_getElem? hn)
      split at h
      · rcases List.mem_cons.mp h with rfl | h
        · exact (led_pw hk hc).mono (by rw [List.length_cons]; omega)
        · exact (steps_pw hp way _ _ (led_pw hk hc) q h).mono (by rw [List.length_cons]; omega)
      · cases h
/-- the point moved, the point turned -/
def thereQ (qs : List Rat) : Option (List Int) → List Rat
  | none => qs.map fun q => q * ((-1 : Int) : Rat)
  | some s => (qs.zip s).map fun p => p.1 + (p.2 : Rat)
theorem there_pw {a : Nat} {qs : List Rat} {o : Option (List Int)} (h : Pw a qs) (ho : ∀ s, o = some s → ∀ i ∈ s, i.natAbs ≤ 2 ^ 30) : Pw (a + 32) (thereQ qs o) := by
  obtain ⟨hl, D, N, h0, h1, h2, hw⟩ := h
  have e1 : (2:Nat) ^ a ≤ 2 ^ (a + 32) := Nat.pow_le_pow_right (by decide) (by omega)
  cases o with
  | none =>
    refine ⟨by unfold thereQ; rw [List.length_map]; exact hl, D, N, h0, Nat.le_trans h1 e1, Nat.le_trans h2 e1, fun q hq => ?_⟩
    obtain ⟨z, hz, rfl⟩ := List.mem_map.mp hq
    have := (hw z hz).neg
    rwa [show z * ((-1 : Int) : Rat) = -z by rw [show ((-1 : Int) : Rat) = -1 from rfl]; grind]
  | some s =>
    refine ⟨by show (List.map _ _).length ≤ 2; rw [List.length_map]; exact Nat.le_trans (zip_len_le _ _) hl, D, N + 2 ^ 30 * D, h0, Nat.le_trans h1 e1, ?_, fun q hq => ?_⟩
    · have : 2 ^ 30 * D ≤ 2 ^ 30 * 2 ^ a := Nat.mul_le_mul_left _ h1
      have e : 2 ^ (a + 32) = 4 * (2 ^ 30 * 2 ^ a) := by rw [Nat.pow_add, Nat.mul_comm, ← Nat.mul_assoc]
      have : 2 ^ a ≤ 2 ^ 30 * 2 ^ a := Nat.le_mul_of_pos_left _ (by decide)
      omega
    · obtain ⟨z, hz, rfl⟩ := List.mem_map.mp hq
      exact (hw _ (mem_zip_l hz)).add (Wi.int h0 (ho s rfl _ (mem_zip_r hz)))
end T12
end
section
set_option Elab.async false
set_option linter.all false
namespace T12
open PySem PySem.Spec
/-- ints in tuples and lists, at most n deep -/
inductive Pn : Nat → PyData → Prop
  | int (n : Nat) (i : Int) : Pn n (.int i)
  | tup {n : Nat} {ds : List PyData} : (∀ d ∈ ds, Pn n d) → Pn (n + 1) (.tuple ds)
  | lst {n : Nat} {ds : List PyData} : (∀ d ∈ ds, Pn n d) → Pn (n + 1) (.list ds)
theorem lay_all {ds : List PyData} (h : ∀ d ∈ ds, d.canLay0 = true) : PyData.canLayAll0 ds = true := by
  induction ds with
  | nil => rfl
  | cons d ds ih =>
    unfold PyData.canLayAll0
    rw [h d List.mem_cons_self, ih fun x hx => h x (List.mem_cons_of_mem _ hx)]; rfl
theorem depth_all {ds : List PyData} {n : Nat} (h : ∀ d ∈ ds, d.depth ≤ n) : PyData.depthAll ds ≤ n := by
  induction ds with
  | nil => unfold PyData.depthAll; omega
  | cons d ds ih =>
    unfold PyData.depthAll
    exact Nat.max_le.mpr ⟨h d List.mem_cons_self, ih fun x hx => h x (List.mem_cons_of_mem _ hx)⟩
theorem Pn.lay {n : Nat} {d : PyData} (h : Pn n d) : d.canLay0 = true ∧ d.depth ≤ n := by
  induction h with
  | int n i => exact ⟨rfl, by unfold PyData.depth; omega⟩
  | tup h ih =>
    refine ⟨?_, ?_⟩
    · unfold PyData.canLay0; exact lay_all fun d hd => (ih d hd).1
    · unfold PyData.depth; exact Nat.succ_le_succ (depth_all fun d hd => (ih d hd).2)
  | lst h ih =>
    refine ⟨?_, ?_⟩
    · unfold PyData.canLay0; exact lay_all fun d hd => (ih d hd).1
    · unfold PyData.depth; exact Nat.succ_le_succ (depth_all fun d hd => (ih d hd).2)
theorem Pn.shaped {n : Nat} {d : PyData} (h : Pn n d) (hn : n ≤ 64) : SeqAt.shaped d = true := by
  unfold SeqAt.shaped
  rw [h.lay.1, decide_eq_true (Nat.le_trans h.lay.2 hn)]; rfl
theorem Pn.up {n m : Nat} {d : PyData} (h : Pn n d) (hm : n ≤ m) : Pn m d := by
  induction h generalizing m with
  | int n i => exact .int m i
  | tup h ih =>
    cases m with
    | zero => omega
    | succ m => exact .tup fun d hd => ih d hd (by omega)
  | lst h ih =>
    cases m with
    | zero => omega
    | succ m => exact .lst fun d hd => ih d hd (by omega)
theorem pn_num (q : Rat) : Pn 1 (numD q) := by
  unfold numD
  split
  · exact .int _ _
  · refine .tup fun d hd => ?_
    rcases List.mem_cons.mp hd with rfl | hd
    · exact .int _ _
    · rw [List.mem_singleton] at hd; subst hd; exact .int _ _
theorem pn_row (qs : List Rat) : Pn 2 (rowD qs) := .tup fun d hd => by
  obtain ⟨q, _, rfl⟩ := List.mem_map.mp hd
  exact pn_num q
theorem pn_piece (p : Pc) : Pn 4 (pieceD p) := .tup fun d hd => by
  rcases List.mem_cons.mp hd with rfl | hd
  · exact .tup fun d hd => by
      obtain ⟨q, _, rfl⟩ := List.mem_map.mp hd
      exact .int _ _
  rcases List.mem_cons.mp hd with rfl | hd
  · exact .tup fun d hd => by
      obtain ⟨q, _, rfl⟩ := List.mem_map.mp hd
      exact pn_row q
  · rw [List.mem_singleton] at hd; subst hd; exact (pn_row _).up (by decide)
/-- equal by the program's equality: the same -/
theorem eqvAll_iff {n : Nat} : ∀ {ds es : List PyData}, (∀ d ∈ ds, Pn n d) → (∀ d e, Pn n d → Pn n e → (PyData.eqv d e = true ↔ d = e)) → (∀ e ∈ es, Pn n e) → (PyData.eqvAll ds es = true ↔ ds = es)
  | [], [], _, _, _ => by simp [PyData.eqvAll]
  | [], _ :: _, _, _, _ => by simp [PyData.eqvAll]
  | _ :: _, [], _, _, _ => by simp [PyData.eqvAll]
  | d :: ds, e :: es, h1, h2, h3 => by
    rw [PyData.eqvAll, Bool.and_eq_true, h2 d e (h1 d List.mem_cons_self) (h3 e List.mem_cons_self), eqvAll_iff (fun x hx => h1 x (List.mem_cons_of_mem _ hx)) h2 fun x hx => h3 x (List.mem_cons_of_mem _ hx)]
    simp
theorem eqv_iff : ∀ (n : Nat) (d e : PyData), Pn n d → Pn n e → (PyData.eqv d e = true ↔ d = e)
  | 0, _, _, .int _ i, .int _ j => by simp [PyData.eqv]
  | n + 1, _, _, .int _ i, .int _ j => by simp [PyData.eqv]
  | n + 1, _, _, .int _ i, .tup h => by simp [PyData.eqv]
  | n + 1, _, _, .int _ i, .lst h => by simp [PyData.eqv]
  | n + 1, _, _, .tup h, .int _ i => by simp [PyData.eqv]
  | n + 1, _, _, .lst h, .int _ i => by simp [PyData.eqv]
  | n + 1, _, _, .tup h, .lst h' => by simp [PyData.eqv]
  | n + 1, _, _, .lst h, .tup h' => by simp [PyData.eqv]
  | n + 1, _, _, .tup h, .tup h' => by rw [PyData.eqv, eqvAll_iff h (eqv_iff n) h']; simp
  | n + 1, _, _, .lst h, .lst h' => by rw [PyData.eqv, eqvAll_iff h (eqv_iff n) h']; simp
theorem map_inj {α : Type} {e : α → PyData} (h : ∀ a b, e a = e b → a = b) : ∀ {l r : List α}, l.map e = r.map e → l = r
  | [], [], _ => rfl
  | [], _ :: _, q => by simp at q
  | _ :: _, [], q => by simp at q
  | a :: l, b :: r, q => by
    rw [List.map_cons, List.map_cons, List.cons.injEq] at q
    rw [h a b q.1, map_inj h q.2]
theorem rowD_inj {a b : List Rat} (h : rowD a = rowD b) : a = b := by
  injection h with h
  exact map_inj (fun _ _ => numD_inj) h
theorem cornD_inj {a b : List Int} (h : cornD a = cornD b) : a = b := by
  injection h with h
  exact map_inj (fun a b q => by injection q) h
theorem pieceD_inj {a b : Pc} (h : pieceD a = pieceD b) : a = b := by
  unfold pieceD at h
  injection h with h
  rw [List.cons.injEq, List.cons.injEq, List.cons.injEq] at h
  obtain ⟨h1, h2, h3, _⟩ := h
  injection h2 with h2
  cases a; cases b
  rw [Pc.mk.injEq]
  exact ⟨cornD_inj h1, map_inj (fun _ _ => rowD_inj) h2, rowD_inj h3⟩
instance : DecidableEq Pc := fun a b => decidable_of_iff (a.corner = b.corner ∧ a.rows = b.rows ∧ a.shift = b.shift) (by cases a; cases b; rw [Pc.mk.injEq])
theorem eqv_piece {a b : Pc} : PyData.eqv (pieceD a) (pieceD b) = true ↔ a = b := (eqv_iff 4 _ _ (pn_piece a) (pn_piece b)).trans ⟨pieceD_inj, congrArg _⟩
end T12
end
section
set_option Elab.async false
set_option linter.all false
set_option maxRecDepth 100000
set_option maxHeartbeats 2000000
namespace T12
open PySem PySem.Spec PyProof.Rows L2
section
variable {X : Cx} {ρ : Sl} {μ : Mu} {Q : SV → Mu → Prop} {e a b c : Expr} {pos p p' : Pos}
theorem DvAll.rep {G : Hp} {vs : List V} {ds : List PyData} (h : DvAll G vs ds) : ∀ k : Nat, DvAll G (List.replicate k vs).flatten (List.replicate k ds).flatten
  | 0 => .nil
  | k + 1 => by
    rw [List.replicate_succ, List.replicate_succ, List.flatten_cons, List.flatten_cons]
    exact h.app (DvAll.rep h k)
def rRepX (K : PySem.W.Frag) : R2 := fun x y H Q => rRep1 K x y H Q ∨ rRepT K x y H Q
theorem op_repX : OpR X (binaryOp .Mult) (rRepX X.K) := fun pins s σ H x y v u Q I rx ry h => by
  rcases h with h | h
  · exact op_rep1 pins s σ H x y v u Q I rx ry h
  · exact op_repT pins s σ H x y v u Q I rx ry h
/-- tuple * n, n from 1 -/
theorem de_mulT (h : DE X a ρ μ fun x μ1 => DE X b ρ μ1 fun y μ2 => ∃ (ds : List PyData) (n : Nat), x = .d (.tuple ds) ∧ y = .d (.int (n : Nat)) ∧ ds ≠ [] ∧ 1 ≤ n ∧ n ≤ 1000 ∧ ds.length ≤ 1000 ∧ Q (.d (.tuple (List.replicate n ds).flatten)) μ2) : DE X (.BinOp a .Mult b pos) ρ μ Q :=
  de_op op_repX (h.imp fun _ _ z => z.imp fun _ _ ⟨ds, n, ex, ey, h0, h1, h2, h3, q⟩ H v u Qc m r1 r2 k => by
    subst ex ey
    cases r2
    cases r1 with
    | @tup l xs _ g1 g2 =>
      have hT : SqT X.K H l xs := SqT.of (hid_le _ _ g1)
      by_cases hn : n = 1
      · subst hn
        refine .inl ⟨l, xs, rfl, rfl, hT, k _ _ _ H q (Ex.refl _) m ?_⟩
        rw [List.replicate_one, List.flatten_singleton]
        exact .tup g1 g2
      · refine .inr ⟨l, (n : Int), xs, rfl, rfl, hT, fun e => h0 ?_, by omega, by omega, by rw [g2.len]; exact h3, fun t ht => ?_⟩
        · have := g2.len
          rw [e] at this
          exact List.eq_nil_of_length_eq_zero this.symm
        · refine k _ _ _ _ q (ex_new ht) (m.new ht) (.tup (hid_new m ht) ?_)
          exact DvAll.mono (ex_new ht) _ _ (g2.rep n))
/-- [..] * n -/
theorem de_mulM (h : DE X a ρ μ fun x μ1 => DE X b ρ μ1 fun y μ2 => ∃ (l : Addr) (ds : List PyData) (n : Nat), x = .m l ∧ μ2 l = some ds ∧ y = .d (.int (n : Nat)) ∧ n ≤ 1000 ∧ ds.length ≤ 1000 ∧ Q (.d (.list (List.replicate n ds).flatten)) (era μ2 l)) : DE X (.BinOp a .Mult b pos) ρ μ Q :=
  de_op op_rep (h.imp fun _ _ z => z.imp fun _ μ2 ⟨l, ds, n, ex, hm, ey, h2, h3, q⟩ H v u Qc m r1 r2 k => by
    subst ex ey
    cases r2
    cases (show v = .ref l from r1)
    obtain ⟨xs, g1, g2⟩ := m l ds hm
    refine ⟨l, n, xs, rfl, rfl, g1, by omega, by omega, ?_, fun t ht => ?_⟩
    · rw [sizeLine_eq, g2.len, Int.toNat_natCast]
      have : ds.length * n ≤ 1000 * 1000 := Nat.mul_le_mul h3 h2
      omega
    · have e1 : Ex (hid H μ2) (hid (upd H t (.lst (List.replicate (n : Int).toNat xs).flatten)) (era μ2 l)) := (ex_era (a := l)).trans (ex_new ht)
      refine k _ _ _ _ q e1 ((m.era (a := l)).new ht) (.lst (.inl (hid_new m.era ht)) ?_)
      exact DvAll.mono e1 _ _ (g2.rep n))
/-- a list that was changed till now is done with -/
theorem de_drop (l : Addr) (h : DE X e ρ μ fun x μ' => Q x (era μ' l)) : DE X e ρ μ Q := fun σ H R Qc q => h σ H R Qc fun x μ' v H' hq e1 m1 r1 => q _ _ _ H' hq (e1.trans ex_era) m1.era (r1.mono ex_era)
end
theorem atI_last {α : Type} (l : List α) (x : α) : atI (l ++ [x]) (-1) = some x := by
  unfold atI ixN
  rw [if_neg (by decide), if_pos (by rw [List.length_append, List.length_singleton]; omega)]
  show (l ++ [x])[((-1 : Int) + ((l ++ [x]).length : Nat)).toNat]? = some x
  rw [List.length_append, List.length_singleton, show ((-1 : Int) + ((l.length + 1 : Nat) : Int)).toNat = l.length by omega]
  simp
theorem atI_nat {α : Type} {l : List α} {i : Nat} {x : α} (h : l[i]? = some x) : atI l (i : Nat) = some x := by
  have hl := (List.getElem?_eq_some_iff.mp h).1
  unfold atI ixN
  rw [if_pos (by omega), if_pos (by omega)]
  exact h
theorem atI_map' {α : Type} {e : α → PyData} {l : List α} {i : Nat} {x : α} (h : l[i]? = some x) : atI (l.map e) (i : Nat) = some (e x) := atI_nat (by rw [List.getElem?_map, h]; rfl)
end T12
end
section
set_option Elab.async false
set_option linter.all false
set_option maxRecDepth 100000
set_option maxHeartbeats 2000000
set_option exponentiation.threshold 5000
namespace T12
open PySem PySem.Spec PyProof.Rows L2
section
variable {P : Program} {w : World} {K : PySem.W.Frag} {mg : Str → Option Value} {base : Heap}
abbrev sLawPair : Stmt := topS 76
theorem scLawPair : FnScope ["_law_number_here"] ["_law_number_here"] (C8.fnScope sLawPair) := ⟨rfl, rfl, rfl, by decide +kernel, rfl, by decide +kernel, by decide +kernel⟩
theorem ok_law_pair (T : Tp K mg "_law_pair" sLawPair ["_law_number_here"] []) (B : Bl mg) : C8.Cal P w K mg base 1 "_law_pair" (spD K 1 spHalves) [] := by
  refine d_ok (k := 0) T .nil scLawPair rfl fun f cdv A outer s H E hr xs μ Q hl ⟨q, ex, hq⟩ => ?_
  subst ex
  refine dss_cons (ds_ret (de_if (dt_val (de_isT (n := "int") B.isinstance B.int (by decide +kernel) (dv 0 ?_)))))
  by_cases c : q.den = 1
  · rw [numD_one c]
    refine ⟨_, true, rfl, trivial, by decide +kernel, true, rfl, ?_⟩
    refine iteT ?_
    refine de_tup (da_cons (dv 0 (da_cons (de_int (da_nil ⟨_, rfl, rfl, ?_⟩)))))
    rw [c] at hq
    exact hq
  · rw [numD_two c]
    refine ⟨_, false, rfl, trivial, by decide +kernel, false, rfl, ?_⟩
    refine iteF ?_
    refine de_tup (da_cons (de_ix (dv 0 (de_int ⟨_, _, _, rfl, rfl, rfl, ?_⟩))))
    refine da_cons (de_ix (dv 0 (de_int ⟨_, _, _, rfl, rfl, rfl, ?_⟩)))
    exact da_nil ⟨_, rfl, rfl, hq⟩
abbrev sLawForm : Stmt := topS 77
theorem scLawForm : FnScope ["_law_above", "_law_under", "_law_one", "_law_other"] ["_law_above", "_law_under"] (C8.fnScope sLawForm) := ⟨rfl, rfl, rfl, by decide +kernel, rfl, by decide +kernel, by decide +kernel⟩
theorem ok_law_form (T : Tp K mg "_law_form" sLawForm ["_law_above", "_law_under"] []) (B : Bl mg) : C8.Cal P w K mg base 1 "_law_form" (spD K 2 spLowestIn) [] := by
  refine d_ok (k := 0) T .nil scLawForm rfl fun f cdv A outer s H E hr xs μ Q hl ⟨a, b, ex, hb, hlim, hq⟩ => ?_
  subst ex
  have g0 := gcdI_pos (a := a) hb
  have g1 := gcdI_le (a := a) hb
  refine dss_cons (ds_par (i := 2) (j := 3) scLawForm.nd (de_abs B.abs (dv 0 ⟨_, rfl, ?_⟩)))
  refine de_abs B.abs (dv 1 ⟨_, rfl, ?_⟩)
  rw [absI, absI]
  refine dss_cons (ds_while .never (fun n ρ m => m = μ ∧ ∃ u v : Nat, ρ = [some (.d (.int a)), some (.d (.int (b : Nat))), some (.d (.int (u : Nat))), some (.d (.int (v : Nat)))] ∧ v = n ∧ v.gcd u = b.gcd a.natAbs) b ⟨rfl, a.natAbs, b, by rw [Int.natAbs_natCast]; rfl, rfl, rfl⟩ ?_)
  rintro n ρ' μ' ⟨rfl, u, v, rfl, rfl, hg⟩
  refine dt_cmp (dc_gt (dv 3 (de_int ⟨_, _, rfl, rfl, _, rfl, ?_⟩)))
  refine ite2 (fun hc => ?_) (fun hc => ?_)
  · have hv : 0 < v := by simpa using hc
    refine dss_cons (ds_par (i := 2) (j := 3) scLawForm.nd (dv 3 (de_mod (de_intc B.int (dv 2 ⟨_, rfl, dv 3 ⟨_, _, rfl, rfl, Int.natCast_pos.mpr hv, ?_⟩⟩)))))
    refine dss_nil ⟨u % v, Nat.mod_lt _ hv, rfl, v, u % v, by simp, rfl, ?_⟩
    rw [← hg, Nat.gcd_comm v u, Nat.gcd_comm (u % v) v, Nat.gcd_comm u v]
    rw [Nat.gcd_comm v (u % v), ← Nat.gcd_rec]
  · have hv : v = 0 := by
      have : ¬ (0 < v) := by simpa using hc
      omega
    subst hv
    rw [Nat.gcd_zero_left] at hg
    have hu : u = gcdI a b := hg
    subst hu
    refine dss_cons (ds_set (i := 2) scLawForm.nd (de_if (dt_cmp (dc_gt (dv 1 (de_int ⟨_, _, rfl, rfl, _, rfl, ?_⟩))))))
    rw [show decide ((0 : Int) < (b : Int)) = true by simpa using hb]
    refine iteT (dv 2 ?_)
    refine dss_cons (ds_ret (de_if (dt_cmp (dc_eqI (de_div (dv 1 (dv 2 ⟨_, _, rfl, rfl, div_ok g0 g1 hlim, ?_⟩)))))))
    refine de_int ⟨_, _, rfl, rfl, _, rfl, ?_⟩
    rw [numD_mk hb] at hq
    refine ite2 (fun hc => ?_) (fun hc => ?_)
    · rw [if_pos (by simpa using hc)] at hq
      exact de_div (dv 0 (dv 2 ⟨_, _, rfl, rfl, div_ok g0 g1 hlim, hq⟩))
    · rw [if_neg (by simpa using hc)] at hq
      exact de_tup (da_cons (de_div (dv 0 (dv 2 ⟨_, _, rfl, rfl, div_ok g0 g1 hlim, da_cons (de_div (dv 1 (dv 2 ⟨_, _, rfl, rfl, div_ok g0 g1 hlim, da_nil ⟨_, rfl, rfl, hq⟩⟩)))⟩))))
abbrev sLawAdd : Stmt := topS 78
theorem scLawAdd : FnScope ["_law_one", "_law_other", "_law_a", "_law_b", "_law_c", "_law_d"] ["_law_one", "_law_other"] (C8.fnScope sLawAdd) := ⟨rfl, rfl, rfl, by decide +kernel, rfl, by decide +kernel, by decide +kernel⟩
theorem ok_law_add (T : Tp K mg "_law_add" sLawAdd ["_law_one", "_law_other"] []) (c_pair : C8.Cal P w K mg base 1 "_law_pair" (spD K 1 spHalves) []) (c_form : C8.Cal P w K mg base 1 "_law_form" (spD K 2 spLowestIn) []) : C8.Cal P w K mg base 2 "_law_add" (spD K 2 spPlusIn) [] := by
  refine d_ok (k := 1) T .nil scLawAdd rfl fun f cdv A outer s H E hr xs μ Q hl ⟨p, q, ex, sp, sq, hq⟩ => ?_
  subst ex
  refine dss_cons (ds_asg (de_tup (da_cons (de_call c_pair hr (by decide) (da_cons (dv 0 (da_nil ⟨rfl, p, rfl, ?_⟩)))))))
  refine da_cons (de_call c_pair hr (by decide) (da_cons (dv 1 (da_nil ⟨rfl, q, rfl, da_nil ⟨_, rfl, rfl, ?_⟩⟩))))
  refine dg_tup rfl ⟨_, rfl, rfl, dgs_cons (dg_tup rfl ⟨_, rfl, rfl, dgs_cons (dg_name (i := 2) scLawAdd.nd (dgs_cons (dg_name (i := 3) scLawAdd.nd (dgs_nil ?_))))⟩)⟩
  refine dgs_cons (dg_tup rfl ⟨_, rfl, rfl, dgs_cons (dg_name (i := 4) scLawAdd.nd (dgs_cons (dg_name (i := 5) scLawAdd.nd (dgs_nil (dgs_nil ?_)))))⟩)
  refine dss_cons (ds_ret (de_call c_form hr (by decide) (da_cons (de_add (de_mul (dv 2 (dv 5 ⟨_, _, rfl, rfl, mul_ok (num2000 sp.1) (nat2000 sq.2), ?_⟩)))))))
  refine de_mul (dv 4 (dv 3 ⟨_, _, rfl, rfl, mul_ok (num2000 sq.1) (nat2000 sp.2), _, _, rfl, rfl, ?_⟩))
  refine da_cons (de_mul (dv 3 (dv 5 ⟨_, _, rfl, rfl, mul_ok (nat2000 sp.2) (nat2000 sq.2), da_nil ⟨rfl, _, p.den * q.den, by rw [Int.natCast_mul], Nat.mul_pos p.den_pos q.den_pos, lt4000 (sp.dens sq), ?_⟩⟩)))
  rw [← add_mk]
  exact hq
abbrev sLawMul : Stmt := topS 79
theorem scLawMul : FnScope ["_law_one", "_law_other", "_law_a", "_law_b", "_law_c", "_law_d"] ["_law_one", "_law_other"] (C8.fnScope sLawMul) := ⟨rfl, rfl, rfl, by decide +kernel, rfl, by decide +kernel, by decide +kernel⟩
theorem ok_law_mul (T : Tp K mg "_law_mul" sLawMul ["_law_one", "_law_other"] []) (c_pair : C8.Cal P w K mg base 1 "_law_pair" (spD K 1 spHalves) []) (c_form : C8.Cal P w K mg base 1 "_law_form" (spD K 2 spLowestIn) []) : C8.Cal P w K mg base 2 "_law_mul" (spD K 2 spTimesIn) [] := by
  refine d_ok (k := 1) T .nil scLawMul rfl fun f cdv A outer s H E hr xs μ Q hl ⟨p, q, ex, sp, sq, hq⟩ => ?_
  subst ex
  refine dss_cons (ds_asg (de_tup (da_cons (de_call c_pair hr (by decide) (da_cons (dv 0 (da_nil ⟨rfl, p, rfl, ?_⟩)))))))
  refine da_cons (de_call c_pair hr (by decide) (da_cons (dv 1 (da_nil ⟨rfl, q, rfl, da_nil ⟨_, rfl, rfl, ?_⟩⟩))))
  refine dg_tup rfl ⟨_, rfl, rfl, dgs_cons (dg_tup rfl ⟨_, rfl, rfl, dgs_cons (dg_name (i := 2) scLawMul.nd (dgs_cons (dg_name (i := 3) scLawMul.nd (dgs_nil ?_))))⟩)⟩
  refine dgs_cons (dg_tup rfl ⟨_, rfl, rfl, dgs_cons (dg_name (i := 4) scLawMul.nd (dgs_cons (dg_name (i := 5) scLawMul.nd (dgs_nil (dgs_nil ?_)))))⟩)
  refine dss_cons (ds_ret (de_call c_form hr (by decide) (da_cons (de_mul (dv 2 (dv 4 ⟨_, _, rfl, rfl, mul_ok (num2000 sp.1) (num2000 sq.1), ?_⟩))))))
  refine da_cons (de_mul (dv 3 (dv 5 ⟨_, _, rfl, rfl, mul_ok (nat2000 sp.2) (nat2000 sq.2), da_nil ⟨rfl, _, p.den * q.den, by rw [Int.natCast_mul], Nat.mul_pos p.den_pos q.den_pos, lt4000 (sp.dens sq), ?_⟩⟩)))
  rw [← mul_mk]
  exact hq
abbrev sLawLess : Stmt := topS 80
theorem scLawLess : FnScope ["_law_one", "_law_other", "_law_a", "_law_b", "_law_c", "_law_d"] ["_law_one", "_law_other"] (C8.fnScope sLawLess) := ⟨rfl, rfl, rfl, by decide +kernel, rfl, by decide +kernel, by decide +kernel⟩
theorem ok_law_less (T : Tp K mg "_law_less" sLawLess ["_law_one", "_law_other"] []) (c_pair : C8.Cal P w K mg base 1 "_law_pair" (spD K 1 spHalves) []) : C8.Cal P w K mg base 2 "_law_less" (spD K 2 spBelowIn) [] := by
  refine d_ok (k := 1) T .nil scLawLess rfl fun f cdv A outer s H E hr xs μ Q hl ⟨p, q, ex, sp, sq, hq⟩ => ?_
  subst ex
  refine dss_cons (ds_asg (de_tup (da_cons (de_call c_pair hr (by decide) (da_cons (dv 0 (da_nil ⟨rfl, p, rfl, ?_⟩)))))))
  refine da_cons (de_call c_pair hr (by decide) (da_cons (dv 1 (da_nil ⟨rfl, q, rfl, da_nil ⟨_, rfl, rfl, ?_⟩⟩))))
  refine dg_tup rfl ⟨_, rfl, rfl, dgs_cons (dg_tup rfl ⟨_, rfl, rfl, dgs_cons (dg_name (i := 2) scLawLess.nd (dgs_cons (dg_name (i := 3) scLawLess.nd (dgs_nil ?_))))⟩)⟩
  refine dgs_cons (dg_tup rfl ⟨_, rfl, rfl, dgs_cons (dg_name (i := 4) scLawLess.nd (dgs_cons (dg_name (i := 5) scLawLess.nd (dgs_nil (dgs_nil ?_)))))⟩)
  refine dss_cons (ds_ret (de_cmp (dc_lt (de_mul (dv 2 (dv 5 ⟨_, _, rfl, rfl, mul_ok (num2000 sp.1) (nat2000 sq.2), ?_⟩))))))
  refine de_mul (dv 4 (dv 3 ⟨_, _, rfl, rfl, mul_ok (num2000 sq.1) (nat2000 sp.2), _, _, rfl, rfl, ?_⟩))
  show Q (.d (.bool (decide (p.num * (q.den : Nat) < q.num * (p.den : Nat))))) μ
  rw [show decide (p.num * (q.den : Nat) < q.num * (p.den : Nat)) = decide (p < q) by rw [decide_eq_decide]; exact (lt_mk p q).symm]
  exact hq
abbrev sLawHolds : Stmt := topS 84
theorem scLawHolds : FnScope ["_law_piece_here", "_law_point_here", "_law_least", "_law_number_here"] ["_law_piece_here", "_law_point_here"] (C8.fnScope sLawHolds) := ⟨rfl, rfl, rfl, by decide +kernel, rfl, by decide +kernel, by decide +kernel⟩
def outQ (p : Int × Rat) : Bool := decide (p.2 < (p.1 : Rat)) || decide (((p.1 + 1 : Int) : Rat) < p.2)
theorem ok_law_holds (T : Tp K mg "_law_holds" sLawHolds ["_law_piece_here", "_law_point_here"] []) (B : Bl mg) (c_less : C8.Cal P w K mg base 2 "_law_less" (spD K 2 spBelowIn) []) : C8.Cal P w K mg base 3 "_law_holds" (spD K 2 spHeldIn) [] := by
  refine d_ok (k := 2) T .nil scLawHolds rfl fun f cdv A outer s H E hr xs μ Q hl ⟨p, qs, ex, hn, hc, hs, hq⟩ => ?_
  subst ex
  refine dss_cons (ds_for .never (di_zip2 B.zip (de_ix (dv 0 (de_int ⟨_, _, _, rfl, rfl, rfl, ?_⟩)))))
  refine dv 1 ⟨_, _, _, _, p.corner.map .int, qs.map numD, rfl, rfl, rfl, rfl, ?_⟩
  rw [zip2D_map]
  refine dfor_inv (e := fun p : Int × Rat => .tuple [.int p.1, numD p.2]) (fun l ρ m => m = μ ∧ (∃ r1 r2, ρ = [some (.d (pieceD p)), some (.d (rowD qs)), r1, r2]) ∧ (∀ z ∈ l, z ∈ p.corner.zip qs) ∧ (!(l.map outQ).any id) = heldQ p.corner qs) ?_ ?_ (p.corner.zip qs) _ _ ⟨rfl, ⟨none, none, rfl⟩, fun _ h => h, rfl⟩
  · rintro z l ρ m ⟨rfl, ⟨r1, r2, rfl⟩, hm, he⟩
    have hz := hm z List.mem_cons_self
    have h1 := hc _ (mem_zip_l hz)
    have h2 := hs _ (mem_zip_r hz)
    refine dg_tup rfl ⟨_, rfl, rfl, dgs_cons (dg_name (i := 2) scLawHolds.nd (dgs_cons (dg_name (i := 3) scLawHolds.nd (dgs_nil ?_))))⟩
    rw [List.map_cons, List.any_cons] at he
    refine dss_cons (ds_if (dt_w (dw_or (dt_val (de_call c_less hr (by decide) (da_cons (dv 3 (da_cons (dv 2 (da_nil ⟨rfl, z.2, (z.1 : Rat), by rw [numD_int], h2, sm_int ?_, ?_⟩))))))))))
    · exact Nat.lt_trans h1 (Nat.pow_lt_pow_right (by decide) (by decide))
    refine ⟨_, rfl, ite2 (fun hb => ?_) (fun hb => ?_)⟩
    · refine iteT (dss_cons (ds_ret (de_bl ?_)))
      rw [show outQ z = true by unfold outQ; rw [hb, Bool.true_or]] at he
      show Q _ _
      rw [← he] at hq
      exact hq
    · refine dw_or1 (dt_val (de_call c_less hr (by decide) (da_cons (de_add (dv 2 (de_int ⟨_, _, rfl, rfl, ?_⟩))))))
      refine da_cons (dv 3 (da_nil ⟨rfl, ((z.1 + 1 : Int) : Rat), z.2, by rw [numD_int], sm_int ?_, h2, ?_⟩))
      · have : (2:Nat) ^ 900 = 2 ^ 100 * 2 ^ 800 := by rw [← Nat.pow_add]
        have h3 : (2:Nat) ^ 800 ≥ 2 := Nat.le_of_ble_eq_true rfl
        omega
      · have eo : outQ z = decide (((z.1 + 1 : Int) : Rat) < z.2) := by unfold outQ; rw [show decide (z.2 < (z.1 : Rat)) = false by simpa using hb, Bool.false_or]
        rw [eo] at he
        refine ⟨_, rfl, ite2 (fun hb2 => ?_) (fun hb2 => ?_)⟩
        · refine dss_cons (ds_ret (de_bl ?_))
          rw [hb2] at he
          show Q _ _
          rw [← he] at hq
          exact hq
        · refine dss_nil (dss_nil ⟨rfl, ⟨_, _, rfl⟩, fun z hz => hm z (List.mem_cons_of_mem _ hz), ?_⟩)
          rw [show decide (((z.1 + 1 : Int) : Rat) < z.2) = false by simpa using hb2] at he
          exact he
  · rintro ρ m ⟨rfl, ⟨r1, r2, rfl⟩, _, he⟩
    refine dss_cons (ds_ret (de_bl ?_))
    rw [← he] at hq
    exact hq
end
end T12
end
section
set_option Elab.async false
set_option linter.all false
set_option maxRecDepth 100000
set_option maxHeartbeats 2000000
set_option exponentiation.threshold 5000
namespace T12
open PySem PySem.Spec PyProof.Rows L2
theorem sum_snoc {l : List Rat} : ∀ (m : Rat), l.foldl (fun a b => a + b) m = m + l.sum := by
  induction l with
  | nil => intro m; rw [List.foldl_nil, List.sum_nil, Rat.add_zero]
  | cons a l ih => intro m; rw [List.foldl_cons, ih, List.sum_cons, Rat.add_assoc]
theorem items_m {μ : Mu} {a : Addr} {ds : List PyData} (h : μ a = some ds) : items μ (.m a) = some ds := h
theorem last_row {acc : List (List Rat)} {cur : List Rat} : atI ((acc ++ [cur]).map rowD) (-1) = some (rowD cur) := by rw [List.map_append]; exact atI_last _ _
section
variable {P : Program} {w : World} {K : PySem.W.Frag} {mg : Str → Option Value} {base : Heap}
abbrev sLawLeads : Stmt := topS 85
theorem scLawLeads : FnScope ["_law_piece_here", "_law_point_here", "_law_found", "_law_row", "_law_more", "_law_number_here", "_law_mine", "_law_its"] ["_law_piece_here", "_law_point_here"] (C8.fnScope sLawLeads) := ⟨rfl, rfl, rfl, by decide +kernel, rfl, by decide +kernel, by decide +kernel⟩
def spLawLeads : DSp := fun xs μ Q => ∃ (x0 y : PyData) (k : Kd) (rows : List (List Rat)) (shift qs : List Rat) (D1 N1 D2 N2 : Nat), xs = [.d (.tuple [x0, .tuple (rows.map rowD), rowD shift]), .d y] ∧ seqD y = some (k, qs.map numD) ∧
  rows.length ≤ 2 ∧ (∀ r ∈ rows, r.length ≤ 2 ∧ ∀ a ∈ r, Wi D1 N1 a) ∧ (∀ a ∈ shift, Wi D1 N1 a) ∧ (∀ b ∈ qs, Wi D2 N2 b) ∧ Gd D1 ∧ Gd D2 ∧ Nar N1 ∧ Nar N2 ∧ Q (.d (rowD (ledQ rows shift qs))) μ
theorem ok_law_leads (T : Tp K mg "_law_leads" sLawLeads ["_law_piece_here", "_law_point_here"] []) (B : Bl mg) (c_add : C8.Cal P w K mg base 2 "_law_add" (spD K 2 spPlusIn) []) (c_mul : C8.Cal P w K mg base 2 "_law_mul" (spD K 2 spTimesIn) []) : C8.Cal P w K mg base 3 "_law_leads" (spD K 2 spLawLeads) [] := by
  refine d_ok (k := 2) T .nil scLawLeads rfl fun f cdv A outer s H E hr xs μ Q hl ⟨x0, y, k, rows, shift, qs, D1, N1, D2, N2, ex, hy, hn, hrw, hsw, hqw, d1, d2, n1, n2, hq⟩ => ?_
  subst ex
  refine dss_cons (ds_set (i := 2) scLawLeads.nd (de_lstM (da_nil ⟨_, rfl, rfl, fun fa hfa => ?_⟩)))
  refine dss_cons (ds_for .never (di_zip2 B.zip (de_ix (dv 0 (de_int ⟨_, _, _, rfl, rfl, rfl, ?_⟩)))))
  refine de_ix (dv 0 (de_int ⟨_, _, _, rfl, rfl, rfl, _, _, _, _, rows.map rowD, shift.map numD, rfl, rfl, rfl, rfl, ?_⟩))
  rw [zip2D_map]
  refine dfor_inv (e := fun p : List Rat × Rat => .tuple [rowD p.1, numD p.2]) (fun l ρ m => (∃ r1 r2 r3 r4 r5, ρ = [some (.d (.tuple [x0, .tuple (rows.map rowD), rowD shift])), some (.d y), some (.m fa), r1, r2, r3, r4, r5]) ∧ (∀ z ∈ l, z ∈ rows.zip shift) ∧
    ∃ acc : List Rat, m = put μ fa (acc.map numD) ∧ acc.length + l.length ≤ 2 ∧ acc ++ (l.map fun p => dotQ p.1 qs + p.2) = ledQ rows shift qs) ?_ ?_ (rows.zip shift) _ _ ⟨⟨none, none, none, none, none, rfl⟩, fun _ h => h, [], rfl, by have := zip_len_le rows shift; simp only [List.length_nil]; omega, rfl⟩
  · rintro z l ρ m ⟨⟨r1, r2, r3, r4, r5, rfl⟩, hm, acc, rfl, hlen, he⟩
    have hz := hm z List.mem_cons_self
    obtain ⟨hz1, hz2⟩ := hrw _ (mem_zip_l hz)
    have hz3 := hsw _ (mem_zip_r hz)
    rw [List.length_cons] at hlen
    refine dg_tup rfl ⟨_, rfl, rfl, dgs_cons (dg_name (i := 3) scLawLeads.nd (dgs_cons (dg_name (i := 4) scLawLeads.nd (dgs_nil ?_))))⟩
    refine dss_cons (ds_set (i := 5) scLawLeads.nd (dv 4 ?_))
    refine dss_cons (ds_for .never (di_zip2 B.zip (dv 3 (dv 1 ⟨_, _, _, _, z.1.map numD, qs.map numD, rfl, rfl, rfl, hy, ?_⟩))))
    rw [zip2D_map]
    refine dfor_inv (e := fun p : Rat × Rat => .tuple [numD p.1, numD p.2]) (fun t ρ m => m = put μ fa (acc.map numD) ∧ (∀ u ∈ t, u ∈ z.1.zip qs) ∧ ∃ (cur : Rat) (j : Nat) (r6 r7 : Option SV), ρ = [some (.d (.tuple [x0, .tuple (rows.map rowD), rowD shift])), some (.d y), some (.m fa), some (.d (rowD z.1)), some (.d (numD z.2)), some (.d (numD cur)), r6, r7] ∧
      j + t.length ≤ 2 ∧ Wi (D1 * D2) (N1 * D2 + j * (N1 * N2)) cur ∧ cur + (t.map fun p => p.1 * p.2).sum = dotQ z.1 qs + z.2) ?_ ?_ (z.1.zip qs) _ _ ⟨rfl, fun _ h => h, z.2, 0, r4, r5, rfl, by have := zip_len_le z.1 qs; omega, by rw [Nat.zero_mul]; exact hz3.scale d2.1, Rat.add_comm _ _⟩
    · rintro u t ρ m ⟨rfl, hu, cur, j, r6, r7, rfl, hj, hw, hs⟩
      have hu0 := hu u List.mem_cons_self
      rw [List.length_cons] at hj
      have wa := hz2 _ (mem_zip_l hu0)
      have wb := hqw _ (mem_zip_r hu0)
      refine dg_tup rfl ⟨_, rfl, rfl, dgs_cons (dg_name (i := 6) scLawLeads.nd (dgs_cons (dg_name (i := 7) scLawLeads.nd (dgs_nil ?_))))⟩
      refine dss_cons (ds_set (i := 5) scLawLeads.nd (de_call c_add hr (by decide) (da_cons (dv 5 (da_cons (de_call c_mul hr (by decide) (da_cons (dv 6 (da_cons (dv 7 (da_nil ⟨rfl, u.1, u.2, rfl, wa.smN d1 n1, wb.smN d2 n2, ?_⟩)))))))))))
      refine da_nil ⟨rfl, cur, u.1 * u.2, rfl, ?_, (wa.mul wb).sm (far1000 (far_of (mul800 d1.2 d2.2))) (far1000 (far_of (mul800 n1 n2))), dss_nil ?_⟩
      · refine (hw.mono (N' := 8 * 2 ^ 800) ?_).sm (far1000 (far_of (mul800 d1.2 d2.2))) ?_
        · have a1 : N1 * D2 ≤ 2 ^ 800 := Nat.le_of_lt (mul800 n1 d2.2)
          have a2 : N1 * N2 ≤ 2 ^ 800 := Nat.le_of_lt (mul800 n1 n2)
          have a3 : j * (N1 * N2) ≤ 2 * 2 ^ 800 := Nat.mul_le_mul (by omega) a2
          omega
        · rw [show (8 : Nat) = 2 ^ 3 from rfl, ← Nat.pow_add]; exact Nat.pow_lt_pow_right (by decide) (by decide)
      · refine ⟨rfl, fun x hx => hu x (List.mem_cons_of_mem _ hx), cur + u.1 * u.2, j + 1, _, _, rfl, by omega, ?_, ?_⟩
        · have := hw.add (wa.mul wb)
          rw [Nat.add_mul, Nat.one_mul, ← Nat.add_assoc]
          exact this
        · rw [← hs, List.map_cons, List.sum_cons, Rat.add_assoc]
    · rintro ρ m ⟨rfl, _, cur, j, r6, r7, rfl, _, _, hs⟩
      rw [List.map_nil, List.sum_nil, Rat.add_zero] at hs
      refine dss_cons (ds_append (dv 2 ⟨_, rfl, _, put_same, dv 5 ⟨acc.map numD, numD cur, rfl, put_same, by rw [List.length_map]; omega, dss_nil ?_⟩⟩))
      rw [put_put]
      refine ⟨⟨_, _, _, _, _, rfl⟩, fun x hx => hm x (List.mem_cons_of_mem _ hx), acc ++ [cur], by rw [List.map_append]; rfl, by rw [List.length_append, List.length_singleton]; omega, ?_⟩
      rw [← he, hs, List.map_cons, List.append_assoc]; rfl
  · rintro ρ m ⟨⟨r1, r2, r3, r4, r5, rfl⟩, _, acc, rfl, _, he⟩
    rw [List.map_nil, List.append_nil] at he
    refine dss_cons (ds_ret (de_drop fa (de_tuple B.tuple (dv 2 ⟨_, items_m (a := fa) put_same, ?_⟩))))
    rw [era_put hfa, he]
    exact hq
/-- places on a way -/
def wayD (ns : List Nat) : PyData := .list (ns.map fun n => .int (n : Nat))
abbrev sLawRun : Stmt := topS 87
theorem scLawRun : FnScope ["_law_pieces_here", "_law_point_here", "_law_way_here", "_law_found", "_law_number_here"] ["_law_pieces_here", "_law_point_here", "_law_way_here"] (C8.fnScope sLawRun) := ⟨rfl, rfl, rfl, by decide +kernel, rfl, by decide +kernel, by decide +kernel⟩
def piecesD (ps : List Pc) : PyData := .list (ps.map pieceD)
def spLawRun : DSp := fun xs μ Q => ∃ (ps : List Pc) (qs : List Rat) (ns : List Nat) (a : Nat), xs = [.d (piecesD ps), .d (rowD qs), .d (wayD ns)] ∧ (∀ p ∈ ps, Pk p) ∧ Pw a qs ∧ a + 32 * ns.length ≤ 380 ∧ (∀ n ∈ ns, n < ps.length) ∧ Q (.d (.list ((runQ ps qs ns).map rowD))) μ
theorem holds_args {p : Pc} {qs : List Rat} {a : Nat} (hp : Pk p) (hq : Pw a qs) (ha : a ≤ 380) : p.corner.length ≤ 900 ∧ (∀ c ∈ p.corner, c.natAbs < 2 ^ 800) ∧ ∀ q ∈ qs, Sm q := by
  obtain ⟨D, N, _, _, _, hi⟩ := hp.ex
  exact ⟨by have := hi.l.1; omega, hi.c, hq.sm (by omega)⟩
theorem ok_law_run (T : Tp K mg "_law_run" sLawRun ["_law_pieces_here", "_law_point_here", "_law_way_here"] []) (B : Bl mg) (c_holds : C8.Cal P w K mg base 3 "_law_holds" (spD K 2 spHeldIn) []) (c_leads : C8.Cal P w K mg base 3 "_law_leads" (spD K 2 spLawLeads) []) : C8.Cal P w K mg base 4 "_law_run" (spD K 3 spLawRun) [] := by
  refine d_ok (k := 3) T .nil scLawRun rfl fun f cdv A outer s H E hr xs μ Q hl ⟨ps, qs, ns, a, ex, hps, hqs, ha, hns, hq⟩ => ?_
  subst ex
  refine dss_cons (ds_set (i := 3) scLawRun.nd (de_lstM (da_cons (dv 1 (da_nil ⟨_, rfl, rfl, fun fa hfa => ?_⟩)))))
  refine dss_cons (ds_for .never (di_list (dv 2 ⟨_, rfl, ?_⟩)))
  refine dfor_inv (e := fun n : Nat => .int (n : Nat)) (fun l ρ m => (∃ r1, ρ = [some (.d (piecesD ps)), some (.d (rowD qs)), some (.d (wayD ns)), some (.m fa), r1]) ∧ (∀ n ∈ l, n < ps.length) ∧
    ∃ (acc : List (List Rat)) (cur : List Rat) (b : Nat), m = put μ fa ((acc ++ [cur]).map rowD) ∧ acc.length + l.length ≤ 20 ∧ Pw b cur ∧ b + 32 * l.length ≤ 380 ∧ acc ++ runQ ps cur l = runQ ps qs ns) ?_ ?_ ns _ _ ⟨⟨none, rfl⟩, hns, [], qs, a, rfl, by simp only [List.length_nil]; omega, hqs, ha, rfl⟩
  · rintro n l ρ m ⟨⟨r1, rfl⟩, hl', acc, cur, b, rfl, hlen, hcur, hb, he⟩
    have hn := hl' n List.mem_cons_self
    have hp : ps[n]? = some ps[n] := List.getElem?_eq_getElem hn
    generalize ps[n] = p at hp
    have hk := hps p (List.mem_of_getElem? hp)
    have hst : stepsQ ps cur (n :: l) = if heldQ p.corner cur = true then ledQ p.rows p.shift cur :: stepsQ ps (ledQ p.rows p.shift cur) l else [] := by
      rw [stepsQ, hp]
    rw [List.length_cons] at hlen hb
    obtain ⟨g1, g2, g3⟩ := holds_args hk hcur (by omega)
    refine dg_name (i := 4) scLawRun.nd (dss_cons (ds_if (dt_not (dt_val (de_call c_holds hr (by decide) (da_cons (de_ix (dv 0 (dv 4 ⟨ps.map pieceD, (n : Nat), pieceD p, rfl, rfl, atI_map' hp, ?_⟩)))))))))
    refine da_cons (de_ix (dv 3 (de_neg (de_int ⟨_, rfl, _, _, rowD cur, items_m (a := fa) put_same, rfl, last_row, da_nil ⟨rfl, p, cur, rfl, g1, g2, g3, ?_⟩⟩))))
    by_cases hh : heldQ p.corner cur = true
    · rw [hh]
      refine ⟨_, rfl, iteF (dss_nil ?_)⟩
      refine dss_cons (ds_append (dv 3 ⟨_, rfl, _, put_same, de_call c_leads hr (by decide) (da_cons (de_ix (dv 0 (dv 4 ⟨ps.map pieceD, (n : Nat), pieceD p, rfl, rfl, atI_map' hp, ?_⟩))))⟩))
      obtain ⟨D, N, h0, h1, h2, hi⟩ := hk.ex
      obtain ⟨hcl, D2, N2, k0, k1, k2, hw⟩ := hcur
      refine da_cons (de_ix (dv 3 (de_neg (de_int ⟨_, rfl, _, _, rowD cur, items_m (a := fa) put_same, rfl, last_row, da_nil ⟨rfl, _, _, .t, p.rows, p.shift, cur, D, N, D2, N2, rfl, rfl, hi.l.2.1, hi.r, hi.s, hw, ⟨h0, le400 h1 (by decide)⟩, ⟨k0, le400 k1 (by omega)⟩, le400 h2 (by decide), le400 k2 (by omega), ?_⟩⟩))))
      refine ⟨_, _, rfl, put_same, by rw [List.length_map, List.length_append, List.length_singleton]; omega, dss_nil ?_⟩
      rw [put_put]
      refine ⟨⟨_, rfl⟩, fun x hx => hl' x (List.mem_cons_of_mem _ hx), acc ++ [cur], ledQ p.rows p.shift cur, b + 32, by simp only [List.map_append, List.map_cons, List.map_nil], by rw [List.length_append, List.length_singleton]; omega, led_pw hk ⟨hcl, D2, N2, k0, k1, k2, hw⟩, by omega, ?_⟩
      rw [← he]
      unfold runQ
      rw [hst, if_pos hh, List.append_assoc]; rfl
    · have hh' : heldQ p.corner cur = false := by simpa using hh
      rw [hh']
      refine ⟨_, rfl, iteT (dss_cons (ds_ret (de_freeze (dv 3 ⟨_, _, rfl, put_same, ?_⟩))))⟩
      rw [era_put hfa]
      unfold runQ at he
      rw [hst, if_neg hh] at he
      rw [he]
      exact hq
  · rintro ρ m ⟨⟨r1, rfl⟩, _, acc, cur, b, rfl, _, _, _, he⟩
    refine dss_cons (ds_ret (de_freeze (dv 3 ⟨_, _, rfl, put_same, ?_⟩)))
    rw [era_put hfa]
    unfold runQ at he
    rw [show stepsQ ps cur [] = [] from rfl] at he
    rw [he]
    exact hq
end
end T12
end
section
set_option Elab.async false
set_option linter.all false
set_option maxRecDepth 100000
set_option maxHeartbeats 2000000
set_option exponentiation.threshold 5000
namespace T12
open PySem PySem.Spec PyProof.Rows L2
section
variable {P : Program} {w : World} {K : PySem.W.Frag} {mg : Str → Option Value} {base : Heap}
abbrev sLawThere : Stmt := topS 89
theorem scLawThere : FnScope ["_law_point_here", "_law_shift", "_law_number_here", "_law_step"] ["_law_point_here", "_law_shift"] (C8.fnScope sLawThere) := ⟨rfl, rfl, rfl, by decide +kernel, rfl, by decide +kernel, by decide +kernel⟩
/-- the shift as data: none, or a tuple of ints -/
def shD : Option (List Int) → PyData
  | none => .none
  | some s => cornD s
def spLawThere : DSp := fun xs μ Q => ∃ (qs : List Rat) (o : Option (List Int)) (a : Nat), xs = [.d (rowD qs), .d (shD o)] ∧ Pw a qs ∧ a ≤ 380 ∧ (∀ s, o = some s → ∀ i ∈ s, i.natAbs ≤ 2 ^ 30) ∧ Q (.d (rowD (thereQ qs o))) μ
theorem ok_law_there (T : Tp K mg "_law_there" sLawThere ["_law_point_here", "_law_shift"] []) (B : Bl mg) (c_add : C8.Cal P w K mg base 2 "_law_add" (spD K 2 spPlusIn) []) (c_mul : C8.Cal P w K mg base 2 "_law_mul" (spD K 2 spTimesIn) []) : C8.Cal P w K mg base 3 "_law_there" (spD K 2 spLawThere) [] := by
  refine d_ok (k := 2) T .nil scLawThere rfl fun f cdv A outer s H E hr xs μ Q hl ⟨qs, o, a, ex, hp, ha, ho, hq⟩ => ?_
  subst ex
  have hsm := hp.sm (by omega)
  cases o with
  | none =>
    refine dss_cons (ds_if (dt_cmp (dc_isN (dv 1 ⟨_, rfl, _, rfl, iteT ?_⟩))))
    refine dss_cons (ds_ret (de_tuple B.tuple (lc1 2 scLawThere (di_tup (dv 0 ⟨_, rfl, ?_, ?_⟩)))))
    · rw [List.length_map]; have := hp.1; omega
    refine dlc_map (e := numD) (g := fun q : Rat => numD (q * ((-1 : Int) : Rat))) qs [] (fun z hz => ⟨_, rfl, fun m s0 H0 C0 cl0 fp0 => ?_⟩) ?_
    · exact de_call c_mul hr (by decide) (da_cons (dv 2 (da_cons (de_neg (de_int ⟨_, rfl, da_nil ⟨rfl, z, ((-1 : Int) : Rat), by rw [numD_int], hsm _ hz, sm_int (by decide), rfl, rfl⟩⟩)))))
    · refine ⟨_, rfl, ?_⟩
      unfold thereQ at hq
      simp only [List.nil_append, rowD, List.map_map] at hq ⊢
      exact hq
  | some sh =>
    have hs := ho sh rfl
    refine dss_cons (ds_if (dt_cmp (dc_isN (dv 1 ⟨_, rfl, _, rfl, iteF (dss_nil ?_)⟩))))
    refine dss_cons (ds_ret (de_tuple B.tuple (lc2 2 3 scLawThere ?_)))
    refine di_zip2 B.zip (dv 0 (dv 1 ⟨_, _, _, _, qs.map numD, sh.map .int, rfl, rfl, rfl, rfl, ?_, ?_⟩))
    · rw [zip2D_map, List.length_map]; have := zip_len_le qs sh; have := hp.1; omega
    rw [zip2D_map]
    refine dlc_map (e := fun p : Rat × Int => .tuple [numD p.1, .int p.2]) (g := fun p : Rat × Int => numD (p.1 + (p.2 : Rat))) _ [] (fun z hz => ⟨_, rfl, fun m s0 H0 C0 cl0 fp0 => ?_⟩) ?_
    · refine de_call c_add hr (by decide) (da_cons (dv 2 (da_cons (dv 3 (da_nil ⟨rfl, z.1, (z.2 : Rat), by rw [numD_int], hsm _ (mem_zip_l hz), sm_int ?_, rfl, rfl⟩)))))
      exact Nat.lt_of_le_of_lt (hs _ (mem_zip_r hz)) (Nat.pow_lt_pow_right (by decide) (by decide))
    · refine ⟨_, rfl, ?_⟩
      unfold thereQ at hq
      simp only [List.nil_append, rowD, List.map_map] at hq ⊢
      exact hq
/-! shifted -/
theorem zip3D_map {α β γ : Type} (e : α → PyData) (f : β → PyData) (g : γ → PyData) (l : List α) (r : List β) (t : List γ) : zip3D (l.map e) (r.map f) (t.map g) = (l.zip (r.zip t)).map fun p => .tuple [e p.1, f p.2.1, g p.2.2] := by
  unfold zip3D
  rw [zip2D_map]
  generalize r.zip t = u
  induction l generalizing u with
  | nil => rfl
  | cons a l ih =>
    cases u with
    | nil => rfl
    | cons b u => rw [List.map_cons, List.map_cons, List.zipWith_cons_cons, ih, List.zip_cons_cons, List.map_cons]
def shiftedQ (p : Pc) (s : List Int) : Pc := ⟨(p.corner.zip s).map (fun x => x.1 + x.2), p.rows, (p.shift.zip (s.zip (ledQ p.rows (List.replicate s.length 0) (s.map fun i : Int => (i : Rat))))).map fun x => (x.1 + (x.2.1 : Rat)) + x.2.2 * ((-1 : Int) : Rat)⟩
theorem shifted_eq {p : Pc} {s : List Int} (hr : p.rows.length = s.length) : shiftedQ p s = movedQ p s := by
  unfold shiftedQ movedQ
  rw [Pc.mk.injEq]
  refine ⟨rfl, rfl, ?_⟩
  have key : ∀ (sh : List Rat) (t : List Int) (rows : List (List Rat)) (v : List Rat), (sh.zip (t.zip (ledQ rows (List.replicate rows.length 0) v))).map (fun x => (x.1 + (x.2.1 : Rat)) + x.2.2 * ((-1 : Int) : Rat)) = (((sh.zip t).map fun x => x.1 + (x.2 : Rat)).zip rows).map fun x => x.1 - dotQ x.2 v := by
    intro sh
    induction sh with
    | nil => intro t rows v; simp
    | cons a sh ih =>
      intro t rows v
      cases t with
      | nil => simp
      | cons b t =>
        cases rows with
        | nil => simp [ledQ]
        | cons r rows =>
          rw [List.length_cons, List.replicate_succ, show ledQ (r :: rows) (0 :: List.replicate rows.length 0) v = (dotQ r v + 0) :: ledQ rows (List.replicate rows.length 0) v from rfl, List.zip_cons_cons, List.zip_cons_cons, List.map_cons, ih]
          rw [List.zip_cons_cons, List.map_cons, List.zip_cons_cons, List.map_cons]
          congr 1
          show a + (b : Rat) + (dotQ r v + 0) * ((-1 : Int) : Rat) = a + (b : Rat) - dotQ r v
          rw [show ((-1 : Int) : Rat) = -1 from rfl]; grind
  rw [← hr]
  exact key _ _ _ _
abbrev sLawShifted : Stmt := topS 92
theorem scLawShifted : FnScope ["_law_piece_here", "_law_shift", "_law_back", "_law_more", "_law_number_here", "_law_step", "_law_its"] ["_law_piece_here", "_law_shift"] (C8.fnScope sLawShifted) := ⟨rfl, rfl, rfl, by decide +kernel, rfl, by decide +kernel, by decide +kernel⟩
def spLawShifted : DSp := fun xs μ Q => ∃ (p : Pc) (s : List Int), xs = [.d (pieceD p), .d (cornD s)] ∧ Pk p ∧ p.Wd s.length ∧ 1 ≤ s.length ∧ s.length ≤ 2 ∧ (∀ i ∈ s, i.natAbs ≤ 2 ^ 30) ∧ Q (.d (pieceD (movedQ p s))) μ
theorem rep_flat {α : Type} (n : Nat) (a : α) : (List.replicate n [a]).flatten = List.replicate n a := by
  induction n with
  | zero => rfl
  | succ n ih => rw [List.replicate_succ, List.flatten_cons, ih, List.replicate_succ]; rfl
theorem ok_law_shifted (T : Tp K mg "_law_shifted" sLawShifted ["_law_piece_here", "_law_shift"] []) (B : Bl mg) (c_add : C8.Cal P w K mg base 2 "_law_add" (spD K 2 spPlusIn) []) (c_mul : C8.Cal P w K mg base 2 "_law_mul" (spD K 2 spTimesIn) []) (c_leads : C8.Cal P w K mg base 3 "_law_leads" (spD K 2 spLawLeads) []) : C8.Cal P w K mg base 4 "_law_shifted" (spD K 2 spLawShifted) [] := by
  refine d_ok (k := 3) T .nil scLawShifted rfl fun f cdv A outer s H E hr xs μ Q hl ⟨p, sh, ex, hp, hw, hn1, hn2, hs, hq⟩ => ?_
  subst ex
  rw [← shifted_eq hw.r] at hq
  obtain ⟨D, N, h0, h1, h2, hi⟩ := hp.ex
  have d1 : Gd D := ⟨h0, le400 h1 (by decide)⟩
  have n1 : Nar N := le400 h2 (by decide)
  have hzw : ∀ a ∈ List.replicate sh.length (0 : Rat), Wi D N a := fun a ha => by
    rw [List.mem_replicate] at ha
    rw [ha.2]; exact (Wi.zero h0).mono (Nat.zero_le _)
  have hsw : ∀ b ∈ sh.map (fun i : Int => (i : Rat)), Wi 1 (2 ^ 30 * 1) b := fun b hb => by
    obtain ⟨i, hi, rfl⟩ := List.mem_map.mp hb
    exact Wi.int (by decide) (hs i hi)
  have g1 : Gd 1 := ⟨by decide, Nat.one_lt_two_pow (by decide)⟩
  have g2 : Nar (2 ^ 30 * 1) := by unfold Nar; rw [Nat.mul_one]; exact Nat.pow_lt_pow_right (by decide) (by decide)
  refine dss_cons (ds_set (i := 2) scLawShifted.nd (de_call c_leads hr (by decide) (da_cons (de_tup (da_cons (de_non (da_cons (de_ix (dv 0 (de_int ⟨_, _, _, rfl, rfl, rfl, ?_⟩))))))))))
  refine da_cons (de_mulT (de_tup (da_cons (de_int (da_nil ⟨_, rfl, rfl, de_len B.len (dv 1 ⟨_, rfl, [.int 0], sh.length, rfl, ?_, by simp, hn1, by omega, by decide, ?_⟩)⟩)))))
  · rw [List.length_map]
  refine da_nil ⟨_, rfl, rfl, da_cons (dv 1 (da_nil ⟨rfl, .none, cornD sh, .t, p.rows, List.replicate sh.length 0, sh.map (fun i : Int => (i : Rat)), D, N, 1, 2 ^ 30 * 1, ?_, ?_, hi.l.2.1, hi.r, hzw, hsw, d1, g1, n1, g2, ?_⟩))⟩
  · rw [rep_flat, rowD, List.map_replicate, show numD 0 = .int 0 from numD_int 0]
  · rw [← ints_rats]; rfl
  have hbw := led_wi h0 (D2 := 1) (by decide) hi.r hzw hsw
  generalize hbk : ledQ p.rows (List.replicate sh.length 0) (sh.map fun i : Int => (i : Rat)) = bk at hbw ⊢
  have hbs : ∀ b ∈ bk, Sm b := fun b hb => by
    refine (hbw b hb).sm (far1000 (far_of (by rw [Nat.mul_one]; exact lt800 d1.2))) (far1000 (far_of ?_))
    have a1 : N * (2 ^ 30 * 1) ≤ 2 ^ 30 * (2 ^ 30 * 1) := Nat.mul_le_mul_right _ h2
    have a2 : N * 1 ≤ 2 ^ 30 := by omega
    have a3 : (2:Nat) ^ 100 ≤ 2 ^ 800 := Nat.pow_le_pow_right (by decide) (by decide)
    have a4 : 2 * (2 ^ 30 * (2 ^ 30 * 1)) + 2 ^ 30 < 2 ^ 100 := by decide +kernel
    exact Nat.lt_of_le_of_lt (Nat.add_le_add (Nat.mul_le_mul_left 2 a1) a2) (Nat.lt_of_lt_of_le a4 a3)
  refine dss_cons (slc3 3 4 5 6 scLawShifted ?_)
  refine di_zip3 B.zip (de_ix (dv 0 (de_int ⟨_, _, _, rfl, rfl, rfl, ?_⟩)))
  refine dv 1 (dv 2 ⟨_, _, _, _, _, _, p.shift.map numD, sh.map .int, bk.map numD, rfl, rfl, rfl, rfl, rfl, rfl, ?_, ?_⟩)
  · rw [zip3D_map, List.length_map]; have := zip_len_le p.shift (sh.zip bk); have := hi.l.2.2; omega
  rw [zip3D_map]
  refine dlc_map (e := fun x : Rat × (Int × Rat) => .tuple [numD x.1, .int x.2.1, numD x.2.2]) (g := fun x : Rat × (Int × Rat) => numD ((x.1 + (x.2.1 : Rat)) + x.2.2 * ((-1 : Int) : Rat))) _ [] (fun z hz => ⟨_, rfl, fun m s0 H0 C0 cl0 fp0 => ?_⟩) ?_
  · have z1 := hi.s _ (mem_zip_l hz)
    have z2 := hs _ (mem_zip_l (mem_zip_r hz))
    have z3 := hbs _ (mem_zip_r (mem_zip_r hz))
    refine de_call c_add hr (by decide) (da_cons (de_call c_add hr (by decide) (da_cons (dv 4 (da_cons (dv 5 (da_nil ⟨rfl, z.1, (z.2.1 : Rat), by rw [numD_int], z1.smN d1 n1, sm_int ?_, ?_⟩)))))))
    · exact Nat.lt_of_le_of_lt z2 (Nat.pow_lt_pow_right (by decide) (by decide))
    refine da_cons (de_call c_mul hr (by decide) (da_cons (dv 6 (da_cons (de_neg (de_int ⟨_, rfl, da_nil ⟨rfl, z.2.2, ((-1 : Int) : Rat), by rw [numD_int], z3, sm_int (by decide), ?_⟩⟩))))))
    refine da_nil ⟨rfl, z.1 + (z.2.1 : Rat), z.2.2 * ((-1 : Int) : Rat), rfl, ?_, ?_, rfl, rfl⟩
    · refine (z1.add (Wi.int h0 z2)).sm (far1000 (far_of (lt800 d1.2))) (far1000 (far_of ?_))
      have a1 : 2 ^ 30 * D ≤ 2 ^ 30 * 2 ^ 30 := Nat.mul_le_mul_left _ h1
      have a3 : (2:Nat) ^ 100 ≤ 2 ^ 800 := Nat.pow_le_pow_right (by decide) (by decide)
      have a4 : (2:Nat) ^ 30 + 2 ^ 30 * 2 ^ 30 < 2 ^ 100 := by decide +kernel
      exact Nat.lt_of_le_of_lt (Nat.add_le_add h2 a1) (Nat.lt_of_lt_of_le a4 a3)
    · rw [show z.2.2 * ((-1 : Int) : Rat) = -z.2.2 by rw [show ((-1 : Int) : Rat) = -1 from rfl]; grind]
      exact sm_neg z3
  refine dss_cons (ds_ret (de_tup (da_cons (de_tuple B.tuple (lc2 4 5 scLawShifted ?_)))))
  refine di_zip2 B.zip (de_ix (dv 0 (de_int ⟨_, _, _, rfl, rfl, rfl, ?_⟩)))
  refine dv 1 ⟨_, _, _, _, p.corner.map .int, sh.map .int, rfl, rfl, rfl, rfl, ?_, ?_⟩
  · rw [zip2D_map, List.length_map]; have := zip_len_le p.corner sh; have := hi.l.1; omega
  rw [zip2D_map]
  refine dlc_map (e := fun p : Int × Int => .tuple [.int p.1, .int p.2]) (g := fun p : Int × Int => .int (p.1 + p.2)) _ [] (fun z hz => ⟨_, rfl, fun m s0 H0 C0 cl0 fp0 => ?_⟩) ?_
  · exact de_add (dv 4 (dv 5 ⟨_, _, rfl, rfl, rfl, rfl⟩))
  refine ⟨_, rfl, da_cons (de_ix (dv 0 (de_int ⟨_, _, _, rfl, rfl, rfl, ?_⟩)))⟩
  refine da_cons (de_tuple B.tuple (dv 3 ⟨_, rfl, da_nil ⟨_, rfl, rfl, ?_⟩⟩))
  unfold pieceD shiftedQ at hq
  rw [hbk] at hq
  simp only [List.nil_append]
  simp only [rowD, cornD, List.map_map] at hq ⊢
  exact hq
end
end T12
end
section
set_option Elab.async false
set_option linter.all false
set_option maxRecDepth 100000
set_option maxHeartbeats 2000000
set_option exponentiation.threshold 5000
namespace T12
open PySem PySem.Spec PyProof.Rows L2
section
variable {P : Program} {w : World} {K : PySem.W.Frag} {mg : Str → Option Value} {base : Heap}
abbrev sLawTurned : Stmt := topS 93
theorem scLawTurned : FnScope ["_law_piece_here", "_law_number_here"] ["_law_piece_here"] (C8.fnScope sLawTurned) := ⟨rfl, rfl, rfl, by decide +kernel, rfl, by decide +kernel, by decide +kernel⟩
theorem ok_law_turned (T : Tp K mg "_law_turned" sLawTurned ["_law_piece_here"] []) (B : Bl mg) (c_mul : C8.Cal P w K mg base 2 "_law_mul" (spD K 2 spTimesIn) []) : C8.Cal P w K mg base 3 "_law_turned" (spD K 1 spMirroredPiece) [] := by
  refine d_ok (k := 2) T .nil scLawTurned rfl fun f cdv A outer s H E hr xs μ Q hl ⟨p, D, N, ex, hp, d1, n1, hq⟩ => ?_
  subst ex
  refine dss_cons (ds_ret (de_tup (da_cons (de_tuple B.tuple (lc1 1 scLawTurned ?_)))))
  refine di_tup (de_ix (dv 0 (de_int ⟨_, _, _, rfl, rfl, rfl, _, rfl, ?_, ?_⟩)))
  · rw [List.length_map]; have := hp.l.1; omega
  refine dlc_map (e := PyData.int) (g := fun c : Int => .int (-c - 1)) p.corner [] (fun z hz => ⟨_, rfl, fun m s0 H0 C0 cl0 fp0 => ?_⟩) ?_
  · exact de_sub (de_neg (dv 1 ⟨_, rfl, de_int ⟨_, _, rfl, rfl, rfl, rfl⟩⟩))
  refine ⟨_, rfl, da_cons (de_ix (dv 0 (de_int ⟨_, _, _, rfl, rfl, rfl, ?_⟩)))⟩
  refine da_cons (de_tuple B.tuple (lc1 1 scLawTurned ?_))
  refine di_tup (de_ix (dv 0 (de_int ⟨_, _, _, rfl, rfl, rfl, _, rfl, ?_, ?_⟩)))
  · rw [List.length_map]; have := hp.l.2.2; omega
  refine dlc_map (e := numD) (g := fun q : Rat => numD (q * ((-1 : Int) : Rat))) p.shift [] (fun z hz => ⟨_, rfl, fun m s0 H0 C0 cl0 fp0 => ?_⟩) ?_
  · exact de_call c_mul hr (by decide) (da_cons (dv 1 (da_cons (de_neg (de_int ⟨_, rfl, da_nil ⟨rfl, z, ((-1 : Int) : Rat), by rw [numD_int], (hp.s _ hz).smN d1 n1, sm_int (by decide), rfl, rfl⟩⟩)))))
  refine ⟨_, rfl, da_nil ⟨_, rfl, rfl, ?_⟩⟩
  unfold pieceD mirQ at hq
  simp only [List.nil_append]
  simp only [rowD, cornD, List.map_map] at hq ⊢
  exact hq
/-! stands -/
def farC (c : Int) : Bool := decide (1000 < (c.natAbs : Int))
def wideN (q : Rat) : Bool := decide (1000000 < (q.num.natAbs : Int)) || decide (1000 < ((q.den : Nat) : Int))
def standP (p : Pc) : Bool := !p.corner.any farC && !p.shift.any wideN
def standsQ (ps : List Pc) : Bool := ps.all standP
abbrev sLawStands : Stmt := topS 94
theorem scLawStands : FnScope ["_law_pieces_here", "_law_corner", "_law_rows", "_law_shift", "_law_number_here"] ["_law_pieces_here"] (C8.fnScope sLawStands) := ⟨rfl, rfl, rfl, by decide +kernel, rfl, by decide +kernel, by decide +kernel⟩
def spLawStands : DSp := fun xs μ Q => ∃ (ps : List Pc), xs = [.d (piecesD ps)] ∧ (∀ p ∈ ps, p.corner.length ≤ 2 ∧ p.shift.length ≤ 2) ∧ Q (.d (.bool (standsQ ps))) μ
theorem eqv_nil (ds : List PyData) : PyData.eqv (.list ds) (.list []) = ds.isEmpty := by
  cases ds <;> simp [PyData.eqv, PyData.eqvAll]
theorem filter_nil {α β : Type} (t : α → Bool) (g : α → β) (l : List α) : ((l.filter t).map g).isEmpty = !l.any t := by
  induction l with
  | nil => rfl
  | cons a l ih =>
    rw [List.filter_cons, List.any_cons]
    by_cases h : t a = true
    · rw [if_pos h, h]; rfl
    · rw [if_neg h, show t a = false by simpa using h, ih, Bool.false_or]
theorem ok_law_stands (T : Tp K mg "_law_stands" sLawStands ["_law_pieces_here"] []) (B : Bl mg) (c_pair : C8.Cal P w K mg base 1 "_law_pair" (spD K 1 spHalves) []) : C8.Cal P w K mg base 2 "_law_stands" (spD K 1 spLawStands) [] := by
  refine d_ok (k := 1) T .nil scLawStands rfl fun f cdv A outer s H E hr xs μ Q hl ⟨ps, ex, hps, hq⟩ => ?_
  subst ex
  refine dss_cons (ds_for .never (di_list (dv 0 ⟨_, rfl, ?_⟩)))
  refine dfor_inv (e := pieceD) (fun l ρ m => m = μ ∧ (∃ r1 r2 r3 r4, ρ = [some (.d (piecesD ps)), r1, r2, r3, r4]) ∧ (∀ z ∈ l, z ∈ ps) ∧ standsQ l = standsQ ps) ?_ ?_ ps _ _ ⟨rfl, ⟨none, none, none, none, rfl⟩, fun _ h => h, rfl⟩
  · rintro p l ρ m ⟨rfl, ⟨r1, r2, r3, r4, rfl⟩, hm, he⟩
    obtain ⟨hl1, hl2⟩ := hps p (hm p List.mem_cons_self)
    have hst : standsQ (p :: l) = (standP p && standsQ l) := by unfold standsQ; rw [List.all_cons]
    rw [hst] at he
    refine dg_tup rfl ⟨_, rfl, rfl, dgs_cons (dg_name (i := 1) scLawStands.nd (dgs_cons (dg_name (i := 2) scLawStands.nd (dgs_cons (dg_name (i := 3) scLawStands.nd (dgs_nil ?_))))))⟩
    refine dss_cons (ds_if (dt_cmp (dc_neD hr (lc1c 4 scLawStands (di_tup (dv 1 ⟨_, rfl, ?_, ?_⟩))))))
    · rw [List.length_map]; omega
    refine dlc_filter (e := PyData.int) (g := PyData.int) (t := farC) p.corner [] (fun z hz => ⟨_, rfl, fun m => ⟨fun s0 H0 C0 cl0 fp0 => ?_, fun _ s0 H0 C0 cl0 fp0 => dv 4 ⟨rfl, rfl⟩⟩⟩) ?_
    · refine dt_cmp (dc_gt (de_abs B.abs (dv 4 ⟨_, rfl, de_int ⟨_, _, rfl, rfl, _, rfl, rfl, ?_⟩⟩)))
      rw [absI]; rfl
    refine de_lst (da_nil ⟨_, rfl, rfl, ?_⟩)
    refine ⟨_, _, rfl, rfl, ?_, rfl, ?_⟩
    · refine Pn.shaped (n := 1) (.lst fun d hd => ?_) (by decide)
      obtain ⟨z, _, rfl⟩ := List.mem_map.mp hd
      exact .int _ _
    refine ⟨_, rfl, ?_⟩
    rw [eqv_nil, List.nil_append, filter_nil, Bool.not_not]
    refine ite2 (fun hc => ?_) (fun hc => ?_)
    · refine dss_cons (ds_ret (de_bl ?_))
      unfold standP at he
      rw [hc, Bool.not_true, Bool.false_and, Bool.false_and] at he
      show Q _ _
      rw [← he] at hq
      exact hq
    · have hc' : p.corner.any farC = false := by simpa using hc
      refine dss_nil (dss_cons (ds_if (dt_cmp (dc_neD hr (lc1c 4 scLawStands (di_tup (dv 3 ⟨_, rfl, ?_, ?_⟩)))))))
      · rw [List.length_map]; omega
      refine dlc_filter (e := numD) (g := numD) (t := wideN) p.shift [] (fun z hz => ⟨_, rfl, fun m => ⟨fun s0 H0 C0 cl0 fp0 => ?_, fun _ s0 H0 C0 cl0 fp0 => dv 4 ⟨rfl, rfl⟩⟩⟩) ?_
      · refine dt_w (dw_or (dt_cmp (dc_gt (de_abs B.abs (de_ix (de_call c_pair hr (by decide) (da_cons (dv 4 (da_nil ⟨rfl, z, rfl, ?_⟩))))))))) 
        refine de_int ⟨_, _, _, rfl, rfl, rfl, _, rfl, de_int ⟨_, _, rfl, rfl, _, rfl, ?_⟩⟩
        rw [absI]
        have eo : wideN z = (decide (1000000 < (z.num.natAbs : Int)) || decide (1000 < ((z.den : Nat) : Int))) := rfl
        refine ite2 (fun hb => ?_) (fun hb => ?_)
        · rw [hb, Bool.true_or] at eo
          exact ⟨rfl, eo.symm⟩
        · rw [show decide (1000000 < (z.num.natAbs : Int)) = false by simpa using hb, Bool.false_or] at eo
          refine dw_or1 (dt_cmp (dc_gt (de_ix (de_call c_pair hr (by decide) (da_cons (dv 4 (da_nil ⟨rfl, z, rfl, ?_⟩)))))))
          exact de_int ⟨_, _, _, rfl, rfl, rfl, de_int ⟨_, _, rfl, rfl, _, rfl, rfl, eo.symm⟩⟩
      refine de_lst (da_nil ⟨_, rfl, rfl, ?_⟩)
      refine ⟨_, _, rfl, rfl, ?_, rfl, ?_⟩
      · refine Pn.shaped (n := 2) (.lst fun d hd => ?_) (by decide)
        obtain ⟨z, _, rfl⟩ := List.mem_map.mp hd
        exact pn_num z
      refine ⟨_, rfl, ?_⟩
      rw [eqv_nil, List.nil_append, filter_nil, Bool.not_not]
      refine ite2 (fun hd => ?_) (fun hd => ?_)
      · refine dss_cons (ds_ret (de_bl ?_))
        unfold standP at he
        rw [hd, Bool.not_true, Bool.and_false, Bool.false_and] at he
        show Q _ _
        rw [← he] at hq
        exact hq
      · have hd' : p.shift.any wideN = false := by simpa using hd
        refine dss_nil (dss_nil ⟨rfl, ⟨_, _, _, _, rfl⟩, fun z hz => hm z (List.mem_cons_of_mem _ hz), ?_⟩)
        unfold standP at he
        rw [hc', hd', Bool.not_false, Bool.true_and, Bool.true_and] at he
        exact he
  · rintro ρ m ⟨rfl, ⟨r1, r2, r3, r4, rfl⟩, _, he⟩
    refine dss_cons (ds_ret (de_bl ?_))
    rw [← he] at hq
    exact hq
end
end T12
end
section
set_option Elab.async false
set_option linter.all false
set_option maxRecDepth 100000
set_option maxHeartbeats 4000000
set_option exponentiation.threshold 5000
namespace T12
open PySem PySem.Spec PyProof.Rows L2
/-- the wharf as data: the cells, the turn, what is left -/
def whD (cs : List Int) (turn left : Int) : List PyData := [.list (cs.map .int), .int turn, .int left]
/-- as drawn so far -/
def Wst (μ : Mu) (wa : Addr) (cs : List Int) (t : Int) : Prop := ∃ turn left : Int, 0 ≤ turn ∧ turn ≤ t ∧ 0 ≤ left ∧ μ wa = some (whD cs turn left)
/-- after further draws -/
def Aft (μ : Mu) (wa : Addr) (cs : List Int) (t : Int) (μ' : Mu) : Prop := ∃ turn left : Int, 0 ≤ turn ∧ turn ≤ t ∧ 0 ≤ left ∧ μ' = put μ wa (whD cs turn left)
theorem Aft.st {μ μ' : Mu} {wa : Addr} {cs : List Int} {t : Int} (h : Aft μ wa cs t μ') : Wst μ' wa cs t := by
  obtain ⟨turn, left, h1, h2, h3, rfl⟩ := h
  exact ⟨turn, left, h1, h2, h3, put_same⟩
theorem Aft.trans {μ μ1 μ2 : Mu} {wa : Addr} {cs : List Int} {t1 t2 : Int} (h : Aft μ wa cs t1 μ1) (h' : Aft μ1 wa cs t2 μ2) : Aft μ wa cs t2 μ2 := by
  obtain ⟨turn, left, h1, h2, h3, rfl⟩ := h
  obtain ⟨turn', left', h1', h2', h3', rfl⟩ := h'
  exact ⟨turn', left', h1', h2', h3', put_put⟩
theorem Aft.up {μ μ' : Mu} {wa : Addr} {cs : List Int} {t t' : Int} (h : Aft μ wa cs t μ') (ht : t ≤ t') : Aft μ wa cs t' μ' := by
  obtain ⟨turn, left, h1, h2, h3, rfl⟩ := h
  exact ⟨turn, left, h1, by omega, h3, rfl⟩
theorem Wst.refl {μ : Mu} {wa : Addr} {cs : List Int} {t : Int} (h : Wst μ wa cs t) : Aft μ wa cs t μ := by
  obtain ⟨turn, left, h1, h2, h3, h4⟩ := h
  exact ⟨turn, left, h1, h2, h3, (put_self h4).symm⟩
theorem Wst.up {μ : Mu} {wa : Addr} {cs : List Int} {t t' : Int} (h : Wst μ wa cs t) (ht : t ≤ t') : Wst μ wa cs t' := by
  obtain ⟨turn, left, h1, h2, h3, h4⟩ := h
  exact ⟨turn, left, h1, by omega, h3, h4⟩
theorem Aft.ne {μ μ' : Mu} {wa a : Addr} {cs : List Int} {t : Int} (h : Aft μ wa cs t μ') (hn : a ≠ wa) : μ' a = μ a := by
  obtain ⟨turn, left, h1, h2, h3, rfl⟩ := h
  exact put_ne hn
/-- another list beside it -/
theorem put_comm {μ : Mu} {a b : Addr} {ds es : List PyData} (h : a ≠ b) : put (put μ a ds) b es = put (put μ b es) a ds := by
  funext c; unfold put
  by_cases h1 : c = b
  · rw [if_pos h1, if_neg (by rw [h1]; exact h.symm), if_pos h1]
  · rw [if_neg h1]
    by_cases h2 : c = a
    · rw [if_pos h2, if_pos h2]
    · rw [if_neg h2, if_neg h2, if_neg h1]
theorem Aft.under {μ μ' : Mu} {wa a : Addr} {cs : List Int} {t : Int} {ds : List PyData} (hn : a ≠ wa) (h : Aft (put μ a ds) wa cs t μ') : ∃ μ1, Aft μ wa cs t μ1 ∧ μ' = put μ1 a ds := by
  obtain ⟨turn, left, h1, h2, h3, rfl⟩ := h
  exact ⟨_, ⟨turn, left, h1, h2, h3, rfl⟩, put_comm hn⟩
theorem Wst.put {μ : Mu} {wa a : Addr} {cs : List Int} {t : Int} {ds : List PyData} (h : Wst μ wa cs t) (hn : a ≠ wa) : Wst (T12.put μ a ds) wa cs t := by
  obtain ⟨turn, left, h1, h2, h3, h4⟩ := h
  exact ⟨turn, left, h1, h2, h3, by rw [put_ne hn.symm]; exact h4⟩
theorem Wst.fresh {μ : Mu} {wa a : Addr} {cs : List Int} {t : Int} (h : Wst μ wa cs t) (ha : μ a = none) : a ≠ wa := by
  rintro rfl
  obtain ⟨_, _, _, _, _, h4⟩ := h
  rw [ha] at h4; cases h4
section
variable {P : Program} {w : World} {K : PySem.W.Frag} {mg : Str → Option Value} {base : Heap}
abbrev sLawMoor : Stmt := topS 74
abbrev nMoor : List Str := ["_law_wharf_here", "_law_many", "_law_left", "_law_turn", "_law_cell", "_law_mixed"]
theorem scLawMoor : FnScope nMoor ["_law_wharf_here", "_law_many"] (C8.fnScope sLawMoor) := ⟨rfl, rfl, rfl, by decide +kernel, rfl, by decide +kernel, by decide +kernel⟩
def spLawMoor : DSp := fun xs μ Q => ∃ (wa : Addr) (cs : List Int) (t : Int) (many : Nat), xs = [.m wa, .d (.int (many : Nat))] ∧ cs.length ≤ 100 ∧ Wst μ wa cs t ∧ t ≤ 5000 ∧ 0 < many ∧ many ≤ 2 ^ 40 ∧
  ∀ (r : Nat) μ', r < many → Aft μ wa cs (t + 1) μ' → Q (.d (.int (r : Nat))) μ'
def forBody : Stmt → List Stmt
  | .For _ _ b _ _ => b
  | _ => []
def asgVal : Stmt → Expr
  | .Assign _ e _ => e
  | _ => .Constant .none 0 ⟨0, 0, 0, 0⟩
def ifElse : Expr → Expr
  | .IfExp _ _ e _ => e
  | e => e
def ifBody : Stmt → List Stmt
  | .If _ b _ _ => b
  | _ => []
theorem cdiv_small {i j : Int} (h : 0 < j) (h2 : j ≤ 2 ^ 40) : CDivW i j := wide_div h (b := 41) (by omega) (by decide) (by decide)
theorem mulS_l {i j : Int} (h1 : -(2 ^ 64) < i) (h2 : i < 2 ^ 64) : CMul i j := .inl ⟨h1, h2⟩
theorem mod_nat {a : Int} {n : Nat} (h : 0 < n) : ∃ r : Nat, r < n ∧ a % (n : Int) = (r : Nat) := by
  have h1 := Int.emod_nonneg a (b := (n : Int)) (by omega)
  have h2 := Int.emod_lt_of_pos a (b := (n : Int)) (by omega)
  exact ⟨(a % (n : Int)).toNat, by omega, by omega⟩
theorem ok_law_moor (T : Tp K mg "_law_moor" sLawMoor ["_law_wharf_here", "_law_many"] []) (B : Bl mg) : C8.Cal P w K mg base 1 "_law_moor" (spD K 2 spLawMoor) [] := by
  refine d_ok (k := 0) T .nil scLawMoor rfl fun f cdv A outer s H E hr xs μ Q hl ⟨wa, cs, t, many, ex, hcs, ⟨turn, left, t0, t1, l0, hμ⟩, ht, hm0, hm1, hq⟩ => ?_
  subst ex
  have hit : ∀ {μ' : Mu} {tt ll : Int}, μ' wa = some (whD cs tt ll) → items μ' (.m wa) = some (whD cs tt ll) := fun h => h
  have hmI : (0 : Int) < (many : Int) := by omega
  have hmJ : (many : Int) ≤ 2 ^ 40 := by exact_mod_cast hm1
  refine dss_cons (ds_if (dt_cmp (dc_gt (de_ix (dv 0 (de_int ⟨_, _, .int left, hit hμ, rfl, rfl, de_int ⟨_, _, rfl, rfl, _, rfl, ?_⟩⟩))))))
  refine ite2 (fun hc => ?_) (fun hc => ?_)
  · refine dss_cons (ds_set (i := 2) scLawMoor.nd (de_intc B.int (de_ix (dv 0 (de_int ⟨_, _, .int left, hit hμ, rfl, rfl, _, rfl, ?_⟩)))))
    refine dss_cons (ds_asg (de_div (dv 2 (dv 1 ⟨_, _, rfl, rfl, cdiv_small hmI hmJ, ?_⟩))))
    refine dg_item (dv 0 (de_int ⟨wa, _, _, 2, _, rfl, rfl, rfl, hμ, rfl, ?_⟩))
    refine dss_cons (ds_ret (de_mod (de_intc B.int (dv 2 ⟨_, rfl, dv 1 ⟨_, _, rfl, rfl, hmI, ?_⟩⟩))))
    obtain ⟨r, hr1, hr2⟩ := mod_nat (a := left) hm0
    rw [hr2]
    exact hq r _ hr1 ⟨turn, _, t0, by omega, Int.ediv_nonneg l0 (by omega), rfl⟩
  refine dss_nil ?_
  refine dss_cons (ds_set (i := 3) scLawMoor.nd (de_ix (dv 0 (de_int ⟨_, _, .int turn, hit hμ, rfl, rfl, ?_⟩))))
  refine dss_cons (ds_asg (de_add (dv 3 (de_int ⟨_, _, rfl, rfl, ?_⟩))))
  refine dg_item (dv 0 (de_int ⟨wa, _, _, 1, _, rfl, rfl, rfl, hμ, rfl, ?_⟩))
  show DSs _ _ _ (put μ wa (whD cs (turn + 1) left)) _
  have hμ1 : put μ wa (whD cs (turn + 1) left) wa = some (whD cs (turn + 1) left) := put_same
  have haft : Aft μ wa cs (t + 1) (put μ wa (whD cs (turn + 1) left)) := ⟨turn + 1, left, by omega, by omega, l0, rfl⟩
  refine dss_cons (ds_set (i := 4) scLawMoor.nd (de_add (de_mulS (de_int (dv 3 ⟨_, _, rfl, rfl, mulS_l (by decide) (by decide), de_int ⟨_, _, rfl, rfl, ?_⟩⟩)))))
  have rest : ∀ cell : Int, DSs (BD P w K mg base nMoor "_law_moor" sLawMoor f cdv A outer s H E) (List.drop 5 (C8.fnBody sLawMoor)) [some (.m wa), some (.d (.int (many : Nat))), none, some (.d (.int turn)), some (.d (.int cell)), none] (put μ wa (whD cs (turn + 1) left)) { nx := fun _ m => Q (.d .none) m, rt := Q } := by
    intro cell
    have p18 : CPow 10 18 := ⟨by decide, by decide, by decide⟩
    refine dss_cons (ds_if (dt_w (dw_and (dt_cmp (dc_lt (dv 3 (de_len B.len (de_ix (dv 0 (de_int ⟨_, _, .list (cs.map .int), hit hμ1, rfl, rfl, _, rfl, _, _, rfl, rfl, _, rfl, ?_⟩))))))))))
    have tail : DSs (BD P w K mg base nMoor "_law_moor" sLawMoor f cdv A outer s H E) (List.drop 6 (C8.fnBody sLawMoor)) [some (.m wa), some (.d (.int (many : Nat))), none, some (.d (.int turn)), some (.d (.int cell)), none] (put μ wa (whD cs (turn + 1) left)) { nx := fun _ m => Q (.d .none) m, rt := Q } := by
      have p63 : (0 : Int) < 2147483563 := by decide
      have p79 : (0 : Int) < 2147483579 := by decide
      have p49 : (0 : Int) < 2147483549 := by decide
      have a1 := Int.emod_nonneg cell (b := 2147483563) (by decide)
      have a2 := Int.emod_lt_of_pos cell (b := 2147483563) (by decide)
      have tail3 : ∀ mz : Int, DSs (BD P w K mg base nMoor "_law_moor" sLawMoor f cdv A outer s H E) (List.drop 8 (C8.fnBody sLawMoor)) [some (.m wa), some (.d (.int (many : Nat))), none, some (.d (.int turn)), some (.d (.int cell)), some (.d (.int mz))] (put μ wa (whD cs (turn + 1) left)) { nx := fun _ m => Q (.d .none) m, rt := Q } := by
        intro mz
        refine dss_cons (ds_ret (de_mod (de_intc B.int (de_div (dv 5 (de_int ⟨_, _, rfl, rfl, cdiv_small (by decide) (by decide), _, rfl, dv 1 ⟨_, _, rfl, rfl, hmI, ?_⟩⟩))))))
        obtain ⟨r, hr1, hr2⟩ := mod_nat (a := mz / 64) hm0
        rw [hr2]
        exact hq r _ hr1 haft
      have tail2 : ∀ mx : Int, 0 ≤ mx → mx < 2147483579 → DSs (BD P w K mg base nMoor "_law_moor" sLawMoor f cdv A outer s H E) (List.drop 7 (C8.fnBody sLawMoor)) [some (.m wa), some (.d (.int (many : Nat))), none, some (.d (.int turn)), some (.d (.int cell)), some (.d (.int mx))] (put μ wa (whD cs (turn + 1) left)) { nx := fun _ m => Q (.d .none) m, rt := Q } := by
        intro mx b1 b2
        refine dss_cons (ds_set (i := 5) scLawMoor.nd (de_mod (de_intc B.int (de_pow (de_add (de_add (de_mulS (dv 5 (de_add (de_mulS (de_int (dv 3 ⟨_, _, rfl, rfl, mulS_l (by decide) (by decide), de_int ⟨_, _, rfl, rfl, ?_⟩⟩))))))))))))
        have q1 : 0 ≤ mx * (2 * turn + 8387) := Int.mul_nonneg b1 (by omega)
        have q2 : mx * (2 * turn + 8387) ≤ 2147483579 * 20000 := Int.mul_le_mul (by omega) (by omega) (by omega) (by decide)
        have q3 : 0 ≤ 110083 * turn * turn := Int.mul_nonneg (by omega) (by omega)
        have q4 : 110083 * turn * turn ≤ 110083 * 5000 * 5000 := Int.mul_le_mul (by omega) (by omega) (by omega) (by decide)
        have s0 : CMul mx (2 * turn + 8387) := mulS_l (by omega) (by omega)
        have s1 : CMul (110083 * turn) turn := mulS_l (by omega) (by omega)
        refine ⟨_, _, rfl, rfl, s0, de_mulS (de_mulS (de_int (dv 3 ⟨_, _, rfl, rfl, mulS_l (by decide) (by decide), dv 3 ⟨_, _, rfl, rfl, s1, _, _, rfl, rfl, ?_⟩⟩)))⟩
        refine de_int ⟨_, _, rfl, rfl, de_int ⟨_, _, rfl, rfl, ⟨by decide, by decide, ?_⟩, _, rfl, de_int ⟨_, _, rfl, rfl, p49, tail3 _⟩⟩⟩
        omega
      refine dss_cons (ds_set (i := 5) scLawMoor.nd (de_mod (de_intc B.int (de_pow (de_add (de_add (de_mod (de_intc B.int (dv 4 ⟨_, rfl, de_int ⟨_, _, rfl, rfl, p63, ?_⟩⟩)))))))))
      refine de_mulS (de_int (dv 3 ⟨_, _, rfl, rfl, mulS_l (by decide) (by decide), _, _, rfl, rfl, de_int ⟨_, _, rfl, rfl, de_int ⟨_, _, rfl, rfl, ⟨by decide, by decide, ?_⟩, _, rfl, de_int ⟨_, _, rfl, rfl, p79, tail2 _ (Int.emod_nonneg _ (by decide)) (Int.emod_lt_of_pos _ (by decide))⟩⟩⟩⟩))
      omega
    refine ite2 (fun h1 => ?_) (fun h1 => dss_nil tail)
    refine dw_and1 (dt_cmp (dc_ge (de_abs B.abs (dv 4 ⟨_, rfl, de_pow (de_int (de_int ⟨_, _, rfl, rfl, p18, _, _, rfl, rfl, _, rfl, ?_⟩))⟩))))
    refine ite2 (fun h2 => ?_) (fun h2 => dss_nil tail)
    refine dss_cons (ds_set (i := 2) scLawMoor.nd (de_add (de_mulS (de_int (de_sub (de_abs B.abs (de_intc B.int (dv 4 ⟨_, rfl, _, rfl, ?_⟩))))))))
    refine de_pow (de_int (de_int ⟨_, _, rfl, rfl, p18, _, _, rfl, rfl, _, _, rfl, rfl, mulS_l (by decide) (by decide), ?_⟩))
    have fin : ∀ lf : Int, 0 ≤ lf → DSs (BD P w K mg base nMoor "_law_moor" sLawMoor f cdv A outer s H E) (List.drop 1 (ifBody (List.getD (C8.fnBody sLawMoor) 5 (.Pass ⟨0, 0, 0, 0⟩)))) [some (.m wa), some (.d (.int (many : Nat))), some (.d (.int lf)), some (.d (.int turn)), some (.d (.int cell)), none] (put μ wa (whD cs (turn + 1) left)) { nx := fun ρ' μ' => DSs (BD P w K mg base nMoor "_law_moor" sLawMoor f cdv A outer s H E) (List.drop 6 (C8.fnBody sLawMoor)) ρ' μ' { nx := fun _ m => Q (.d .none) m, rt := Q }, rt := Q } := by
      intro lf hl0
      refine dss_cons (ds_asg (de_div (dv 2 (dv 1 ⟨_, _, rfl, rfl, cdiv_small hmI hmJ, ?_⟩))))
      refine dg_item (dv 0 (de_int ⟨wa, _, _, 2, _, rfl, rfl, rfl, hμ1, rfl, ?_⟩))
      refine dss_cons (ds_ret (de_mod (de_intc B.int (dv 2 ⟨_, rfl, dv 1 ⟨_, _, rfl, rfl, hmI, ?_⟩⟩))))
      obtain ⟨r, hr1, hr2⟩ := mod_nat (a := lf) hm0
      rw [hr2]
      refine hq r _ hr1 ⟨turn + 1, lf / many, by omega, by omega, Int.ediv_nonneg hl0 (by omega), ?_⟩
      rw [put_put]; rfl
    have h2' : (10 : Int) ^ (18 : Int).toNat ≤ (if cell < 0 then -cell else cell) := of_decide_eq_true h2
    refine de_intc B.int (de_cmp (dc_lt (dv 4 (de_int ⟨_, _, rfl, rfl, if decide (cell < 0) = true then 1 else 0, rfl, _, _, rfl, rfl, fin _ ?_⟩))))
    split <;> omega
  refine dss_cons (ds_if (dt_cmp (dc_neD hr (de_ix (dv 0 (de_int ⟨_, _, .list (cs.map .int), hit hμ1, rfl, rfl, de_lst (da_nil ⟨_, rfl, rfl, _, _, rfl, rfl, ?_, rfl, _, rfl, ?_⟩)⟩))))))
  · refine Pn.shaped (n := 1) (.lst fun d hd => ?_) (by decide)
    obtain ⟨z, _, rfl⟩ := List.mem_map.mp hd
    exact .int _ _
  rw [eqv_nil]
  refine ite2 (fun h1 => ?_) (fun h1 => dss_nil (rest _))
  have hne : 0 < cs.length := by
    cases cs with
    | nil => cases h1
    | cons a l => exact Nat.succ_pos _
  obtain ⟨r, hr1, hr2⟩ := mod_nat (a := turn) hne
  have hget : (cs.map PyData.int)[r]? = some (.int (cs[r])) := by rw [List.getElem?_map, List.getElem?_eq_getElem hr1]; rfl
  refine dss_cons (ds_set (i := 4) scLawMoor.nd (de_ix (de_ix (dv 0 (de_int ⟨_, _, .list (cs.map .int), hit hμ1, rfl, rfl, ?_⟩)))))
  refine de_mod (de_intc B.int (dv 3 ⟨_, rfl, de_len B.len (de_ix (dv 0 (de_int ⟨_, _, .list (cs.map .int), hit hμ1, rfl, rfl, _, rfl, _, _, rfl, rfl, ?_, ?_⟩)))⟩))
  · rw [List.length_map]; omega
  refine ⟨cs.map .int, turn % ((cs.map PyData.int).length : Nat), .int (cs[r]), rfl, rfl, ?_, dss_nil (rest _)⟩
  rw [List.length_map, hr2]
  exact atI_nat hget
end
end T12
end
section
set_option Elab.async false
set_option linter.all false
set_option maxRecDepth 100000
set_option maxHeartbeats 2000000
namespace T12
open PySem PySem.Spec PyProof.Rows L2
/-- a list of anything -/
def lpR (K : PySem.W.Frag) (xs : List SV) : PrR := ⟨fun G v => ∃ a vs, v = .ref a ∧ Rd G a (.lst vs) ∧ RvAll K G xs vs, fun G G' v e ⟨a, vs, h1, h2, h3⟩ => ⟨a, vs, h1, e.rd h2, h3.mono e⟩⟩
/-- these stand in the list -/
def LsV (K : PySem.W.Frag) (x : SV) (xs : List SV) : Prop := (∃ ds : List PyData, x = .d (.list ds) ∧ xs = ds.map .d) ∨ x = .pr (lpR K xs)
theorem rvall_d {K : PySem.W.Frag} {G : Hp} : ∀ {vs : List V} {ds : List PyData}, DvAll G vs ds → RvAll K G (ds.map .d) vs
  | _, _, .nil => .nil
  | _, _, .cons r t => .cons r (rvall_d t)
theorem lsv_v {K : PySem.W.Frag} {μ : Mu} {H : Hp} {x : SV} {xs : List SV} {v : V} (h : LsV K x xs) (r : Rv K (hid H μ) x v) : ∃ a vs, v = .ref a ∧ SqL K H a vs ∧ RvAll K (hid H μ) xs vs := by
  rcases h with ⟨ds, rfl, rfl⟩ | rfl
  · have r' : Dv (hid H μ) v (.list ds) := r
    cases r' with
    | lst h1 h2 => exact ⟨_, _, rfl, .inl (Ex.rd hid_le h1), rvall_d h2⟩
  · obtain ⟨a, vs, h1, h2, h3⟩ := (show ∃ a vs, v = .ref a ∧ Rd (hid H μ) a (.lst vs) ∧ RvAll K (hid H μ) xs vs from r)
    exact ⟨a, vs, h1, .inl (Ex.rd hid_le h2), h3⟩
theorem RvAll.get {K : PySem.W.Frag} {G : Hp} : ∀ {xs : List SV} {vs : List V} {i : Nat} {x : SV}, RvAll K G xs vs → xs[i]? = some x → ∃ v, vs[i]? = some v ∧ Rv K G x v
  | _, _, _, _, .nil, e => by simp at e
  | _, _, 0, _, .cons r _, e => by
    obtain rfl := Option.some.inj (by simpa using e)
    exact ⟨_, rfl, r⟩
  | _, _, i + 1, x, .cons _ t, e => by
    obtain ⟨v, h1, h2⟩ := RvAll.get (i := i) (x := x) t (by simpa using e)
    exact ⟨v, by simpa using h1, h2⟩
theorem RvAll.len {K : PySem.W.Frag} {G : Hp} {xs : List SV} {vs : List V} (h : RvAll K G xs vs) : vs.length = xs.length := (Paired.length h).symm
section
variable {X : Cx} {ρ : Sl} {μ : Mu} {Q : SV → Mu → Prop} {e a b : Expr} {es : List Expr} {pos p p2 : Pos}
/-- a list of anything, written -/
theorem de_lstP (h : DA X es ρ μ fun xs m => Nat.ble xs.length 1000 = true ∧ Q (.pr (lpR X.K xs)) m) : DE X (.List es pos) ρ μ Q := fun σ H R Qc k =>
  cE_of (pe_lst (pa_k es)) (h σ H R _ fun xs μ1 vs H1 ⟨hl, q⟩ e1 m1 r1 => by
    refine ⟨by rw [r1.len]; exact Nat.le_of_lt (small1000 (Nat.le_of_ble_eq_true hl)), fun p hp => ?_⟩
    exact k _ μ1 _ _ q (e1.trans (ex_new hp)) (m1.new hp) ⟨p, vs, rfl, .inl (hid_new m1 hp), r1.mono (ex_new hp)⟩)
theorem de_lenP (hm : X.mg "len" = none) (h : DE X a ρ μ fun x m => ∃ xs, LsV X.K x xs ∧ Q (.d (.int (xs.length : Nat))) m) (hg : Gl X "len" := by rfl) (he : starEach [a] X.env = (false, eval a X.env) :: starEach [] X.env := by rfl) (hpl : (backTo pos (starEach [] X.env)).any (·.1) = false := by rfl) :
    DE X (.Call (.Name "len" p) [a] [] pos) ρ μ Q :=
  de_callB call_len hm (by decide +kernel) (da_cons (h.imp fun x m ⟨ds, e, q⟩ => da_nil fun H vs Qc m r k => by
    cases r with
    | cons r1 r2 =>
      cases r2
      obtain ⟨l, vs, rfl, hv, hq⟩ := lsv_v e r1
      exact ⟨_, ds.length, rfl, .inl ⟨vs, hv, hq.len.symm⟩, k _ _ _ H q (Ex.refl _) m (.int _)⟩) he) hg (by decide) (by decide) he hpl
theorem de_ixP (h : DE X a ρ μ fun x m => DE X b ρ m fun y m' => ∃ (xs : List SV) (i : Nat) (z : SV), LsV X.K x xs ∧ y = .d (.int (i : Nat)) ∧ xs[i]? = some z ∧ Q z m') (hs : PlainIx b := by intro _ _; rfl) : DE X (.Subscript a b pos) ρ μ Q := fun σ H R Qc k =>
  cE_of (pe_ix ix_seq (pe_k a) (pe_k b) hs) (bin_of (ta := cE X a) (r := rIx X.K) R k (h.imp fun x μ1 z => z.imp fun y μ2 ⟨xs, i, d, hi, hy, hat, q⟩ H v u Qc m r1 r2 k => by
    subst hy
    cases r2
    obtain ⟨l, vs, rfl, hv, hq⟩ := lsv_v hi r1
    obtain ⟨w', h1, h2⟩ := hq.get hat
    exact .inl ⟨l, vs, i, w', rfl, rfl, hv, atI_nat h1, k _ μ2 w' H q (Ex.refl _) m h2⟩))
/-- l[:n] -/
theorem DvAll.drop {G : Hp} {vs : List V} {ds : List PyData} : ∀ (n : Nat), DvAll G vs ds → DvAll G (vs.drop n) (ds.drop n)
  | 0, h => h
  | _ + 1, .nil => .nil
  | n + 1, .cons _ t => DvAll.drop n t
def cutD (ds : List PyData) (lo hi : Option Int) : List PyData := (ds.drop (HT.sIx ds.length 0 lo)).take (HT.sIx ds.length ds.length hi - HT.sIx ds.length 0 lo)
theorem de_cut {n : Int} {j : Nat} (h : DE X a ρ μ fun x m => ∃ ds, x = .d (.list ds) ∧ Q (.d (.list (cutD ds none (some n)))) m) : DE X (.Subscript a (.Slice none (some (.Constant (.int n) j p)) none p2) pos) ρ μ Q := fun σ H R Qc k =>
  cE_of (pe_slice sl_list (pe_k a) po_none (po_some pe_int)) (h σ H R _ fun x m v H1 ⟨ds, ex, q⟩ e1 m1 r1 => by
    subst ex
    cases r1 with
    | @lst l vs _ h1 h2 =>
      refine ⟨n, rfl, l, vs, rfl, .inl (Ex.rd hid_le h1), fun t ht => ?_⟩
      refine k _ m _ _ q (e1.trans (ex_new ht)) (m1.new ht) (.lst (.inl (hid_new m1 ht)) ?_)
      unfold cutV cutD
      rw [h2.len]
      exact DvAll.take _ (DvAll.drop _ (DvAll.mono (ex_new ht) _ _ h2)))
/-- x not in l, l a list that is being changed -/
theorem dc_notInM (hu : X.A.units + 65 < cLine) (h : DE X a ρ μ fun x μ1 => DE X b ρ μ1 fun y μ2 => ∃ d l ds, x = .d d ∧ y = .m l ∧ μ2 l = some ds ∧ SeqAt.shaped d = true ∧ SeqAt.shaped (.list ds) = true ∧ Q (.d (.bool (!ds.any fun z => PyData.eqv z d))) μ2) (hmk : behindInMarks .NotIn b = false := by rfl) : DC X .NotIn a b ρ μ Q :=
  dc_of (op_notInD hu) hmk (h.imp fun _ _ z => z.imp fun _ μ2 z H v u Qc m r1 r2 k => by
    obtain ⟨d, l, ds, rfl, rfl, hm, s1, s2, q⟩ := z
    cases (show u = .ref l from r2)
    obtain ⟨xs, g1, g2⟩ := m l ds hm
    exact ⟨d, ds, Dv.dp hid_le d v r1, .lst (.inl (.inl g1)) (DvAll.dp hid_le ds _ g2), s1, s2, k _ _ _ H q (Ex.refl _) m (.bl _)⟩)
theorem upd_hid_new {μ : Mu} {H : Hp} (m : MuOk μ H) {p : Addr} {o : HO} (h : H p = none) : hid (upd H p o) μ p = some o := hid_new m h
/-- a, b = e1, e2 by a tuple that is made and taken apart -/
theorem ds_parT {Φ : DEnds} {i j : Nat} {n n' : Str} {px py pt pt2 : Pos} {kt k2 : Nat} (hN : X.N.Nodup) (h : DE X a ρ μ fun x m => DE X b ρ m fun y m' => Φ.nx ((ρ.set i (some x)).set j (some y)) m') (hi : X.N[i]? = some n := by rfl) (hj : X.N[j]? = some n' := by rfl) (hc : X.calm = true := by rfl)
    (hx : Loc X.env.scope n := by first | exact Or.inl rfl | exact Or.inr rfl) (hy : Loc X.env.scope n' := by first | exact Or.inl rfl | exact Or.inr rfl)
    (hf : X.fn n = true ∨ X.env.scope.names.lookup n = some .local := by first | exact .inl rfl | exact .inr rfl) (hf' : X.fn n' = true ∨ X.env.scope.names.lookup n' = some .local := by first | exact .inl rfl | exact .inr rfl)
    (hw : swappedStores [.Tuple [.Name n px, .Name n' py] kt pt] (.Tuple [a, b] k2 pt2) X.env = pure none := by rfl)
    (hs : swapsWithSole [.Tuple [.Name n px, .Name n' py] kt pt] (.Tuple [a, b] k2 pt2) pos.line X.env = pure false := by rfl) (h0 : (assignEach [.Tuple [.Name n px, .Name n' py] kt pt] X.env).map (·.2) = [assign (.Tuple [.Name n px, .Name n' py] kt pt) X.env] := by rfl)
    (hnn : (assignEach [.Name n px, .Name n' py] X.env).length = 2 := by rfl) (hst : (assignEach [.Name n px, .Name n' py] X.env).findIdx? (·.1) = none := by rfl)
    (g1 : (assignEach (.Name n px :: [.Name n' py]) X.env).map (·.2) = assign (.Name n px) X.env :: (assignEach [.Name n' py] X.env).map (·.2) := by rfl) (g2 : (assignEach (.Name n' py :: []) X.env).map (·.2) = assign (.Name n' py) X.env :: (assignEach [] X.env).map (·.2) := by rfl)
    (h1 : starEach (a :: [b]) X.env = (false, eval a X.env) :: starEach [b] X.env := by rfl) (h2 : starEach (b :: []) X.env = (false, eval b X.env) :: starEach [] X.env := by rfl) : DS X (.Assign [.Tuple [.Name n px, .Name n' py] kt pt] (.Tuple [a, b] k2 pt2) pos) ρ μ Φ := fun σ H R D k =>
  cS_of (ps_asg (pe_tup (pa_cons (pe_k a) (pa_cons (pe_k b) pa_nil h2) h1)) (pg_tup hc (pgs_cons (pg_name hN hi hx hf) (pgs_cons (pg_name hN hj hy hf') pgs_nil g2) g1) hnn hst) hs hw h0) (h σ H R _ fun x m v H1 q e1 m1 r1 => q σ H1 (R.step e1 m1) _ fun y m' u H2 q2 e2 m2 r2 => by
    refine ⟨by show 2 ≤ sizeLine; decide, fun t ht => ?_⟩
    have e3 := ex_new (μ := m') (o := .tup [v, u]) ht
    refine ⟨t, [v, u], rfl, SqT.of upd_same, rfl, v, _, rfl, u, _, rfl, rfl, ?_⟩
    exact k.nx _ m' _ _ q2 ((e1.trans e2).trans e3) (((R.step ((e1.trans e2).trans e3) (m2.new ht)).set (r1.mono (e2.trans e3))).set (r2.mono e3)))
end
end T12
end
section
set_option Elab.async false
set_option linter.all false
set_option maxRecDepth 100000
set_option maxHeartbeats 4000000
set_option exponentiation.threshold 5000
namespace T12
open PySem PySem.Spec PyProof.Rows L2
/-! what is drawn: small numbers, small pieces -/
def Lo (q : Rat) : Prop := q.num.natAbs ≤ 6 ∧ q.den ≤ 6
theorem Lo.int {i : Int} (h : i.natAbs ≤ 6) : Lo (i : Rat) := ⟨by simpa using h, by simp⟩
theorem Lo.mk {a : Int} {b : Nat} (ha : a.natAbs ≤ 6) (hb : 0 < b) (hb6 : b ≤ 6) : Lo (mkRat a b) := ⟨(Wi.of (N := 6) hb ha).num, Nat.le_trans (Wi.of (N := 6) hb ha).den hb6⟩
theorem Lo.wi {q : Rat} (h : Lo q) : Wi 60 360 q := by
  have hd := q.den_pos
  have e : q.den * (60 / q.den) = 60 := by
    have : q.den = 1 ∨ q.den = 2 ∨ q.den = 3 ∨ q.den = 4 ∨ q.den = 5 ∨ q.den = 6 := by have := h.2; omega
    rcases this with h | h | h | h | h | h <;> rw [h]
  have hc : 0 < 60 / q.den := Nat.div_pos (by have := h.2; omega) hd
  have w : Wi q.den 6 q := ⟨hd, q.num, (Rat.mkRat_self q).symm, h.1⟩
  have w2 := w.scale hc
  rw [e] at w2
  refine w2.mono ?_
  have : 60 / q.den ≤ 60 := Nat.div_le_self _ _
  omega
/-- a drawn piece, n wide -/
structure Dr (p : Pc) (n : Nat) : Prop where
  w : p.Wd n
  c : ∀ c ∈ p.corner, c.natAbs ≤ 2
  r : ∀ r ∈ p.rows, ∀ a ∈ r, Lo a
  s : ∀ a ∈ p.shift, Lo a
theorem Dr.pin {p : Pc} {n : Nat} (h : Dr p n) (hn : n ≤ 2) : p.In 60 360 :=
  ⟨fun c hc => Nat.lt_of_le_of_lt (h.c c hc) (Nat.lt_of_lt_of_le (by decide : 2 < 2 ^ 2) (Nat.pow_le_pow_right (by decide) (by decide))), fun r hr => ⟨by rw [h.w.e r hr]; exact hn, fun a ha => (h.r r hr a ha).wi⟩, fun a ha => (h.s a ha).wi, by rw [h.w.c, h.w.r, h.w.s]; exact ⟨hn, hn, hn⟩⟩
theorem Dr.pk {p : Pc} {n : Nat} (h : Dr p n) (hn : n ≤ 2) : Pk p := ⟨60, 360, by decide, by decide, by decide, h.pin hn⟩
theorem turn_draw {m m' : Mu} {wa D : Addr} {cs : List Int} {t0 t : Int} {acc : List PyData} (hw : Wst m wa cs t0) (hD : m D = none) (h : Aft (put m D acc) wa cs t m') : Aft m wa cs t (era m' D) ∧ m' D = some acc ∧ put (era m' D) D acc = m' := by
  obtain ⟨μ1, h1, rfl⟩ := Aft.under (hw.fresh hD) h
  have hD1 : μ1 D = none := by rw [h1.ne (hw.fresh hD)]; exact hD
  rw [era_put hD1]
  exact ⟨h1, put_same, rfl⟩
section
variable {P : Program} {w : World} {K : PySem.W.Frag} {mg : Str → Option Value} {base : Heap}
abbrev sLawPick : Stmt := topS 75
theorem scLawPick : FnScope ["_law_wharf_here", "_law_some"] ["_law_wharf_here", "_law_some"] (C8.fnScope sLawPick) := ⟨rfl, rfl, rfl, by decide +kernel, rfl, by decide +kernel, by decide +kernel⟩
def spLawPick (K : PySem.W.Frag) : DSp := fun xs μ Q => ∃ (wa : Addr) (cs : List Int) (t : Int) (x : SV) (ys : List SV), xs = [.m wa, x] ∧ LsV K x ys ∧ ys ≠ [] ∧ ys.length ≤ 1000 ∧ cs.length ≤ 100 ∧ Wst μ wa cs t ∧ t ≤ 5000 ∧
  ∀ y ∈ ys, ∀ μ', Aft μ wa cs (t + 1) μ' → Q y μ'
theorem ok_law_pick (T : Tp K mg "_law_pick" sLawPick ["_law_wharf_here", "_law_some"] []) (B : Bl mg) (c_moor : C8.Cal P w K mg base 1 "_law_moor" (spD K 2 spLawMoor) []) : C8.Cal P w K mg base 2 "_law_pick" (spD K 2 (spLawPick K)) [] := by
  refine d_ok (k := 1) T .nil scLawPick rfl fun f cdv A outer s H E hr xs μ Q hl ⟨wa, cs, t, x, ys, ex, hx, hne, hlen, hcs, hw, ht, hq⟩ => ?_
  subst ex
  refine dss_cons (ds_ret (de_ixP (dv 1 (de_call c_moor hr (by decide) (da_cons (dv 0 (da_cons (de_lenP B.len (dv 1 ⟨ys, hx, da_nil ⟨rfl, wa, cs, t, ys.length, rfl, hcs, hw, ht, List.length_pos_iff.mpr hne, Nat.le_trans hlen (by decide), fun r μ' hr haft => ?_⟩⟩)))))))))
  exact ⟨ys, r, ys[r], hx, rfl, List.getElem?_eq_getElem hr, hq _ (List.getElem_mem hr) μ' haft⟩
abbrev sLawNumber : Stmt := topS 81
theorem scLawNumber : FnScope ["_law_wharf_here", "_law_above", "_law_under"] ["_law_wharf_here"] (C8.fnScope sLawNumber) := ⟨rfl, rfl, rfl, by decide +kernel, rfl, by decide +kernel, by decide +kernel⟩
def spLawNumber : DSp := fun xs μ Q => ∃ (wa : Addr) (cs : List Int) (t : Int), xs = [.m wa] ∧ cs.length ≤ 100 ∧ Wst μ wa cs t ∧ t ≤ 4900 ∧ ∀ q μ', Lo q → Aft μ wa cs (t + 4) μ' → Q (.d (numD q)) μ'
theorem half_num : numD (mkRat 1 2) = .tuple [.int 1, .int 2] := by
  rw [numD_mk (by decide)]; rfl
theorem ok_law_number (T : Tp K mg "_law_number" sLawNumber ["_law_wharf_here"] []) (B : Bl mg) (c_moor : C8.Cal P w K mg base 1 "_law_moor" (spD K 2 spLawMoor) []) (c_form : C8.Cal P w K mg base 1 "_law_form" (spD K 2 spLowestIn) []) (c_pick : C8.Cal P w K mg base 2 "_law_pick" (spD K 2 (spLawPick K)) []) : C8.Cal P w K mg base 3 "_law_number" (spD K 1 spLawNumber) [] := by
  refine d_ok (k := 2) T .nil scLawNumber rfl fun f cdv A outer s H E hr xs μ Q hl ⟨wa, cs, t, ex, hcs, hw, ht, hq⟩ => ?_
  subst ex
  refine dss_cons (ds_par (i := 1) (j := 2) scLawNumber.nd (de_sub (de_call c_moor hr (by decide) (da_cons (dv 0 (da_cons (de_int (da_nil ⟨rfl, wa, cs, t, 13, rfl, hcs, hw, by omega, by decide, by decide, fun r1 μ1 hr1 ha1 => ?_⟩))))))))
  refine de_int ⟨_, _, rfl, rfl, de_add (de_int (de_call c_moor hr (by decide) (da_cons (dv 0 (da_cons (de_int (da_nil ⟨rfl, wa, cs, t + 1, 6, rfl, hcs, ha1.st, by omega, by decide, by decide, fun r2 μ2 hr2 ha2 => ?_⟩)))))))⟩
  refine ⟨_, _, rfl, rfl, ?_⟩
  have hA := ha1.trans ha2
  have hlim : 1 + r2 < 2 ^ 4000 := Nat.lt_of_le_of_lt (by omega : 1 + r2 ≤ 2 ^ 3) (Nat.pow_lt_pow_right (by decide) (by decide))
  refine dss_cons (ds_ret (de_call c_pick hr (by decide) (da_cons (dv 0 (da_cons (de_lst ?_))))))
  refine da_cons (de_sub (de_call c_moor hr (by decide) (da_cons (dv 0 (da_cons (de_int (da_nil ⟨rfl, wa, cs, t + 1 + 1, 7, rfl, hcs, ha2.st, by omega, by decide, by decide, fun r3 μ3 hr3 ha3 => ?_⟩)))))))
  refine de_int ⟨_, _, rfl, rfl, da_cons (de_call c_form hr (by decide) (da_cons (dv 1 (da_cons (dv 2 (da_nil ⟨rfl, (r1 : Int) - 6, 1 + r2, by rw [Int.natCast_add], by omega, hlim, ?_⟩))))))⟩
  refine da_cons (de_call c_form hr (by decide) (da_cons (dv 1 (da_cons (dv 2 (da_nil ⟨rfl, (r1 : Int) - 6, 1 + r2, by rw [Int.natCast_add], by omega, hlim, ?_⟩))))))
  refine da_cons (de_int (da_cons (de_int (da_cons (de_tup (da_cons (de_int (da_cons (de_int (da_nil ⟨_, rfl, rfl, ?_⟩))))))))))
  refine da_cons (de_int (da_nil ⟨_, rfl, rfl, da_nil ⟨rfl, wa, cs, t + 1 + 1 + 1, _, _, rfl, .inl ⟨_, rfl, rfl⟩, by simp, Nat.le_of_ble_eq_true rfl, hcs, ha3.st, by omega, fun y hy μ' haft => ?_⟩⟩))
  have hfin : ∀ q, Lo q → Q (.d (numD q)) μ' := fun q hL => hq q μ' hL (((hA.trans ha3).trans haft).up (by omega))
  have hI : ∀ i : Int, i.natAbs ≤ 6 → Q (.d (.int i)) μ' := fun i hi => by
    have := hfin _ (Lo.int hi)
    rwa [numD_int] at this
  have hM := hfin _ (Lo.mk (a := (r1 : Int) - 6) (b := 1 + r2) (by omega) (by omega) (by omega))
  simp only [List.map_cons, List.map_nil, List.mem_cons, List.not_mem_nil, or_false] at hy
  rcases hy with rfl | rfl | rfl | rfl | rfl | rfl | rfl
  · exact hI _ (by omega)
  · exact hM
  · exact hM
  · exact hI _ (by decide)
  · exact hI _ (by decide)
  · rw [← half_num]; exact hfin _ (Lo.mk (by decide) (by decide) (by decide))
  · exact hI _ (by decide)
end
end T12
end
section
set_option Elab.async false
set_option linter.all false
set_option maxRecDepth 100000
set_option maxHeartbeats 4000000
set_option exponentiation.threshold 5000
namespace T12
open PySem PySem.Spec PyProof.Rows L2
section
variable {P : Program} {w : World} {K : PySem.W.Frag} {mg : Str → Option Value} {base : Heap}
abbrev sLawPiece : Stmt := topS 82
theorem scLawPiece : FnScope ["_law_wharf_here", "_law_wide", "_law_corner", "_law_rows", "_law_place", "_law_row", "_law_at"] ["_law_wharf_here", "_law_wide"] (C8.fnScope sLawPiece) := ⟨rfl, rfl, rfl, by decide +kernel, rfl, by decide +kernel, by decide +kernel⟩
def spLawPiece : DSp := fun xs μ Q => ∃ (wa : Addr) (cs : List Int) (t : Int) (n : Nat), xs = [.m wa, .d (.int (n : Nat))] ∧ n ≤ 2 ∧ cs.length ≤ 100 ∧ Wst μ wa cs t ∧ t ≤ 4800 ∧ ∀ p μ', Dr p n → Aft μ wa cs (t + 40) μ' → Q (.d (pieceD p)) μ'
theorem intOf_b (b : Bool) : intOf (.d (.bool b)) = some (if b then 1 else 0) := rfl
theorem ok_law_piece (T : Tp K mg "_law_piece" sLawPiece ["_law_wharf_here", "_law_wide"] []) (B : Bl mg) (c_moor : C8.Cal P w K mg base 1 "_law_moor" (spD K 2 spLawMoor) []) (c_number : C8.Cal P w K mg base 3 "_law_number" (spD K 1 spLawNumber) []) : C8.Cal P w K mg base 4 "_law_piece" (spD K 2 spLawPiece) [] := by
  refine d_ok (k := 3) T .nil scLawPiece rfl fun f cdv A outer s H E hr xs μ Q hl ⟨wa, cs, t, n, ex, hn, hcs, hw, ht, hq⟩ => ?_
  subst ex
  refine dss_cons (ds_set (i := 2) scLawPiece.nd (de_tuple B.tuple (lc1 4 scLawPiece (di_range B.range (dv 1 ⟨n, rfl, by omega, by omega, ?_, ?_⟩)))))
  · rw [upto_len]; omega
  refine dlc_inv (e := fun i : Nat => .int (i : Nat)) (fun l acc m => ∃ c : List Int, acc = c.map .int ∧ c.length + l.length = n ∧ (∀ x ∈ c, x.natAbs ≤ 2) ∧ Aft μ wa cs (t + c.length) m) ?_ ?_ (List.range n) [] _ ⟨[], rfl, by rw [List.length_range, List.length_nil, Nat.zero_add], fun _ h => by simp at h, by simpa using hw.refl⟩
  · rintro i l acc m ⟨c, rfl, hlen, hc, haft⟩
    rw [List.length_cons] at hlen
    refine ⟨_, rfl, fun D hD s0 H0 C0 cl0 fp0 => ?_⟩
    refine de_sub (de_call c_moor hr (by decide) (da_cons (dv 0 (da_cons (de_int (da_nil ⟨rfl, wa, cs, t + c.length, 5, rfl, hcs, haft.st.put (haft.st.fresh hD), by omega, by decide, by decide, fun r μ' hr ha2 => ?_⟩))))))
    obtain ⟨g1, g2, g3⟩ := turn_draw haft.st hD ha2
    refine de_int ⟨_, _, rfl, rfl, _, rfl, g2, c ++ [(r : Int) - 2], by rw [List.map_append]; rfl, by rw [List.length_append, List.length_singleton]; omega, fun x hx => ?_, (haft.trans g1).up (by rw [List.length_append, List.length_singleton]; omega)⟩
    rcases List.mem_append.mp hx with hx | hx
    · exact hc x hx
    · rw [List.mem_singleton] at hx; omega
  rintro acc m1 ⟨c, rfl, hlen, hc, ha1⟩
  rw [List.length_nil, Nat.add_zero] at hlen
  refine ⟨_, rfl, ?_⟩
  refine dss_cons (ds_set (i := 3) scLawPiece.nd (de_lstM (da_nil ⟨_, rfl, rfl, fun ra hra => ?_⟩)))
  have hne : ra ≠ wa := ha1.st.fresh hra
  refine dss_cons (ds_for .never (di_range B.range (dv 1 ⟨n, rfl, by omega, by omega, ?_⟩)))
  refine dfor_inv (e := fun i : Nat => .int (i : Nat)) (fun l ρ m => (∃ r1 r2 r3, ρ = [some (.m wa), some (.d (.int (n : Nat))), some (.d (cornD c)), some (.m ra), r1, r2, r3]) ∧
    ∃ (rows : List (List Rat)) (m2 : Mu), m = put m2 ra (rows.map rowD) ∧ m2 ra = none ∧ rows.length + l.length = n ∧ (∀ r ∈ rows, r.length = n ∧ ∀ a ∈ r, Lo a) ∧ Aft μ wa cs (t + 2 + 10 * rows.length) m2) ?_ ?_ (List.range n) _ _ ⟨⟨none, none, none, rfl⟩, [], m1, rfl, hra, by rw [List.length_range, List.length_nil, Nat.zero_add], fun _ h => by simp at h, ha1.up (by simp only [List.length_nil]; omega)⟩
  · rintro i l ρ m ⟨⟨r1, r2, r3, rfl⟩, rows, m2, rfl, h2, hlen2, hrows, ha2⟩
    rw [List.length_cons] at hlen2
    refine dg_name (i := 4) scLawPiece.nd (dss_cons (slc1 5 6 scLawPiece (di_range B.range (dv 1 ⟨n, rfl, by omega, by omega, ?_, ?_⟩))))
    · rw [upto_len]; omega
    have hst := ha2.st.put (ds := rows.map rowD) hne
    refine dlc_inv (e := fun i : Nat => .int (i : Nat)) (fun l acc m => ∃ row : List Rat, acc = row.map numD ∧ row.length + l.length = n ∧ (∀ x ∈ row, Lo x) ∧ Aft (put m2 ra (rows.map rowD)) wa cs (t + 2 + 10 * rows.length + 5 * row.length) m) ?_ ?_ (List.range n) [] _ ⟨[], rfl, by rw [List.length_range, List.length_nil, Nat.zero_add], fun _ h => by simp at h, by simpa using hst.refl⟩
    · rintro j l2 acc m3 ⟨row, rfl, hlen3, hrow, ha3⟩
      rw [List.length_cons] at hlen3
      refine ⟨_, rfl, fun D hD s0 H0 C0 cl0 fp0 => ?_⟩
      refine de_if (dt_cmp (dc_gt (de_call c_moor hr (by decide) (da_cons (dv 0 (da_cons (de_int (da_nil ⟨rfl, wa, cs, t + 2 + 10 * rows.length + 5 * row.length, 3, rfl, hcs, ha3.st.put (ha3.st.fresh hD), by omega, by decide, by decide, fun r μ' hr3 ha4 => ?_⟩))))))))
      obtain ⟨g1, g2, g3⟩ := turn_draw ha3.st hD ha4
      refine de_int ⟨_, _, rfl, rfl, _, rfl, ite2 (fun hc3 => ?_) (fun hc3 => ?_)⟩
      · refine de_call c_number hr (by decide) (da_cons (dv 0 (da_nil ⟨rfl, wa, cs, t + 2 + 10 * rows.length + 5 * row.length + 1, rfl, hcs, ha4.st, by omega, fun q μ5 hL ha5 => ?_⟩)))
        rw [← g3] at ha5
        have hD4 : era μ' D D = none := if_pos rfl
        obtain ⟨k1, k2, k3⟩ := turn_draw g1.st hD4 ha5
        refine ⟨_, rfl, k2, row ++ [q], by rw [List.map_append]; rfl, by rw [List.length_append, List.length_singleton]; omega, fun x hx => ?_, ((ha3.trans g1).trans k1).up (by rw [List.length_append, List.length_singleton]; omega)⟩
        rcases List.mem_append.mp hx with hx | hx
        · exact hrow x hx
        · rw [List.mem_singleton] at hx; rw [hx]; exact hL
      · refine de_intc B.int (de_cmp (dc_eqI (dv 6 (dv 4 ⟨_, _, rfl, rfl, _, rfl, ?_⟩))))
        generalize hz : (if decide ((j : Int) = (i : Int)) = true then (1 : Int) else 0) = z
        have hz6 : z.natAbs ≤ 6 := by rw [← hz]; split <;> decide
        refine ⟨_, rfl, g2, row ++ [(z : Rat)], by rw [List.map_append, List.map_singleton, numD_int], by rw [List.length_append, List.length_singleton]; omega, fun x hx => ?_, (ha3.trans g1).up (by rw [List.length_append, List.length_singleton]; omega)⟩
        rcases List.mem_append.mp hx with hx | hx
        · exact hrow x hx
        · rw [List.mem_singleton] at hx; rw [hx]; exact Lo.int hz6
    rintro acc m3 ⟨row, rfl, hlen3, hrow, ha3⟩
    rw [List.length_nil, Nat.add_zero] at hlen3
    obtain ⟨m4, ha4, rfl⟩ := Aft.under hne ha3
    refine dss_cons (ds_append (dv 3 ⟨_, rfl, _, put_same, de_tuple B.tuple (dv 5 ⟨_, rfl, rows.map rowD, rowD row, rfl, put_same, by rw [List.length_map]; omega, dss_nil ?_⟩)⟩))
    rw [put_put]
    refine ⟨⟨_, _, _, rfl⟩, rows ++ [row], m4, by rw [List.map_append]; rfl, by rw [ha4.ne hne]; exact h2, by rw [List.length_append, List.length_singleton]; omega, fun r hr' => ?_, (ha2.trans ha4).up (by rw [List.length_append, List.length_singleton]; omega)⟩
    rcases List.mem_append.mp hr' with hr' | hr'
    · exact hrows r hr'
    · rw [List.mem_singleton] at hr'; rw [hr']; exact ⟨hlen3, hrow⟩
  rintro ρ m ⟨⟨r1, r2, r3, rfl⟩, rows, m2, rfl, h2, hlen2, hrows, ha2⟩
  rw [List.length_nil, Nat.add_zero] at hlen2
  refine dss_cons (ds_ret (de_drop ra (de_tup (da_cons (dv 2 (da_cons (de_tuple B.tuple (dv 3 ⟨_, items_m (a := ra) put_same, ?_⟩))))))))
  refine da_cons (de_tuple B.tuple (lc1 4 scLawPiece (di_range B.range (dv 1 ⟨n, rfl, by omega, by omega, ?_, ?_⟩))))
  · rw [upto_len]; omega
  have hst := ha2.st.put (ds := rows.map rowD) hne
  refine dlc_inv (e := fun i : Nat => .int (i : Nat)) (fun l acc m => ∃ row : List Rat, acc = row.map numD ∧ row.length + l.length = n ∧ (∀ x ∈ row, Lo x) ∧ Aft (put m2 ra (rows.map rowD)) wa cs (t + 2 + 10 * rows.length + 5 * row.length) m) ?_ ?_ (List.range n) [] _ ⟨[], rfl, by rw [List.length_range, List.length_nil, Nat.zero_add], fun _ h => by simp at h, by simpa using hst.refl⟩
  · rintro j l2 acc m3 ⟨row, rfl, hlen3, hrow, ha3⟩
    rw [List.length_cons] at hlen3
    refine ⟨_, rfl, fun D hD s0 H0 C0 cl0 fp0 => ?_⟩
    refine de_call c_number hr (by decide) (da_cons (dv 0 (da_nil ⟨rfl, wa, cs, t + 2 + 10 * rows.length + 5 * row.length, rfl, hcs, ha3.st.put (ha3.st.fresh hD), by omega, fun q μ5 hL ha5 => ?_⟩)))
    obtain ⟨k1, k2, k3⟩ := turn_draw ha3.st hD ha5
    refine ⟨_, rfl, k2, row ++ [q], by rw [List.map_append]; rfl, by rw [List.length_append, List.length_singleton]; omega, fun x hx => ?_, (ha3.trans k1).up (by rw [List.length_append, List.length_singleton]; omega)⟩
    rcases List.mem_append.mp hx with hx | hx
    · exact hrow x hx
    · rw [List.mem_singleton] at hx; rw [hx]; exact hL
  rintro acc m3 ⟨row, rfl, hlen3, hrow, ha3⟩
  rw [List.length_nil, Nat.add_zero] at hlen3
  refine ⟨_, rfl, da_nil ⟨_, rfl, rfl, ?_⟩⟩
  obtain ⟨m4, ha4, rfl⟩ := Aft.under hne ha3
  rw [era_put (by rw [ha4.ne hne]; exact h2)]
  exact hq ⟨c, rows, row⟩ m4 ⟨⟨hlen, hlen2, fun r hr' => (hrows r hr').1, hlen3⟩, hc, fun r hr' => (hrows r hr').2, hrow⟩ ((ha2.trans ha4).up (by omega))
end
end T12
end
section
set_option Elab.async false
set_option linter.all false
set_option maxRecDepth 100000
set_option maxHeartbeats 4000000
set_option exponentiation.threshold 5000
namespace T12
open PySem PySem.Spec PyProof.Rows L2
theorem enumD_map {α : Type} (e : α → PyData) (l : List α) : enumD (l.map e) = ((List.range l.length).zip l).map fun x => .tuple [.int (x.1 : Nat), e x.2] := by
  unfold enumD
  rw [List.length_map]
  have key : ∀ (l : List α) (r : List Nat), List.zipWith (fun (i : Nat) d => PyData.tuple [.int ((i : Nat) : Int), d]) r (l.map e) = (r.zip l).map fun x => .tuple [.int (x.1 : Nat), e x.2] := by
    intro l
    induction l with
    | nil => intro r; simp
    | cons a l ih =>
      intro r
      cases r with
      | nil => rfl
      | cons i r => rw [List.map_cons, List.zipWith_cons_cons, ih, List.zip_cons_cons, List.map_cons]
  exact key l _
theorem seventh : numD (mkRat (-1) 7) = .tuple [.int (-1), .int 7] := by
  rw [numD_mk (by decide)]; rfl
theorem Wi.under {a : Int} {u : Nat} (hu : 0 < u) (hu8 : u ≤ 8) (ha : a.natAbs ≤ u) : Wi 840 840 (mkRat a u) := by
  have e : u * (840 / u) = 840 := by
    have : u = 1 ∨ u = 2 ∨ u = 3 ∨ u = 4 ∨ u = 5 ∨ u = 6 ∨ u = 7 ∨ u = 8 := by omega
    rcases this with h | h | h | h | h | h | h | h <;> rw [h]
  have hc : 0 < 840 / u := Nat.div_pos (by omega) hu
  have w2 := (Wi.of (N := u) hu ha).scale hc
  rw [e] at w2
  exact w2
section
variable {P : Program} {w : World} {K : PySem.W.Frag} {mg : Str → Option Value} {base : Heap}
abbrev sLawPieces : Stmt := topS 83
theorem scLawPieces : FnScope ["_law_wharf_here", "_law_wide", "_law_many", "_law_found", "_law_turn", "_law_piece_here"] ["_law_wharf_here", "_law_wide", "_law_many"] (C8.fnScope sLawPieces) := ⟨rfl, rfl, rfl, by decide +kernel, rfl, by decide +kernel, by decide +kernel⟩
def spLawPieces : DSp := fun xs μ Q => ∃ (wa : Addr) (cs : List Int) (t : Int) (n k : Nat), xs = [.m wa, .d (.int (n : Nat)), .d (.int (k : Nat))] ∧ n ≤ 2 ∧ 1 ≤ k ∧ k ≤ 6 ∧ cs.length ≤ 100 ∧ Wst μ wa cs t ∧ t ≤ 4500 ∧
  ∀ ps μ', (∀ p ∈ ps, Dr p n) → ps.Nodup → 1 ≤ ps.length → ps.length ≤ 6 → Aft μ wa cs (t + 240) μ' → Q (.d (piecesD ps)) μ'
theorem any_eqv {p : Pc} {ps : List Pc} : ((ps.map pieceD).any fun z => PyData.eqv z (pieceD p)) = decide (p ∈ ps) := by
  rw [Bool.eq_iff_iff, List.any_eq_true, decide_eq_true_iff]
  constructor
  · rintro ⟨z, hz, h⟩
    obtain ⟨q, hq, rfl⟩ := List.mem_map.mp hz
    rw [← eqv_piece.mp h]; exact hq
  · exact fun h => ⟨pieceD p, List.mem_map_of_mem h, eqv_piece.mpr rfl⟩
theorem ok_law_pieces (T : Tp K mg "_law_pieces" sLawPieces ["_law_wharf_here", "_law_wide", "_law_many"] []) (B : Bl mg) (c_piece : C8.Cal P w K mg base 4 "_law_piece" (spD K 2 spLawPiece) []) : C8.Cal P w K mg base 5 "_law_pieces" (spD K 3 spLawPieces) [] := by
  refine d_ok (k := 4) T .nil scLawPieces rfl fun f cdv A outer s H E hr xs μ Q hl ⟨wa, cs, t, n, k, ex, hn, hk1, hk, hcs, hw, ht, hq⟩ => ?_
  subst ex
  refine dss_cons (ds_set (i := 3) scLawPieces.nd (de_lstM (da_nil ⟨_, rfl, rfl, fun fa hfa => ?_⟩)))
  have hne : fa ≠ wa := hw.fresh hfa
  refine dss_cons (ds_for .never (di_range B.range (dv 2 ⟨k, rfl, by omega, by omega, ?_⟩)))
  refine dfor_inv (e := fun i : Nat => .int (i : Nat)) (fun l ρ m => (∃ r1 r2, ρ = [some (.m wa), some (.d (.int (n : Nat))), some (.d (.int (k : Nat))), some (.m fa), r1, r2]) ∧
    ∃ (ps : List Pc) (m2 : Mu) (j : Nat), m = put m2 fa (ps.map pieceD) ∧ m2 fa = none ∧ j + l.length = k ∧ ps.length ≤ j ∧ (1 ≤ j → 1 ≤ ps.length) ∧ (∀ p ∈ ps, Dr p n) ∧ ps.Nodup ∧ Aft μ wa cs (t + 40 * j) m2) ?_ ?_ (List.range k) _ _ ⟨⟨none, none, rfl⟩, [], μ, 0, rfl, hfa, by rw [List.length_range, Nat.zero_add], Nat.le_refl _, fun h => absurd h (by decide), fun _ h => by simp at h, List.nodup_nil, hw.refl.up (by omega)⟩
  · rintro i l ρ m ⟨⟨r1, r2, rfl⟩, ps, m2, j, rfl, h2, hj, hlen, hj1, hps, hnd, haft⟩
    rw [List.length_cons] at hj
    refine dg_name (i := 4) scLawPieces.nd (dss_cons (ds_set (i := 5) scLawPieces.nd (de_call c_piece hr (by decide) (da_cons (dv 0 (da_cons (dv 1 (da_nil ⟨rfl, wa, cs, t + 40 * j, n, rfl, hn, hcs, haft.st.put hne, by omega, fun p μ' hp ha2 => ?_⟩))))))))
    obtain ⟨m4, ha4, rfl⟩ := Aft.under hne ha2
    have h4 : m4 fa = none := by rw [ha4.ne hne]; exact h2
    refine dss_cons (ds_if (dt_cmp (dc_notInM (by have := hr.un; omega) (dv 5 (dv 3 ⟨pieceD p, fa, ps.map pieceD, rfl, rfl, put_same, (pn_piece p).shaped (by decide), ?_, _, rfl, ?_⟩)))))
    · refine Pn.shaped (n := 5) (.lst fun d hd => ?_) (by decide)
      obtain ⟨z, _, rfl⟩ := List.mem_map.mp hd
      exact pn_piece z
    rw [any_eqv]
    refine ite2 (fun hc => ?_) (fun hc => ?_)
    · have hp' : p ∉ ps := by simpa using hc
      refine dss_cons (ds_append (dv 3 ⟨_, rfl, _, put_same, dv 5 ⟨ps.map pieceD, pieceD p, rfl, put_same, by rw [List.length_map]; omega, dss_nil ?_⟩⟩))
      rw [put_put]
      refine dss_nil ⟨⟨_, _, rfl⟩, ps ++ [p], m4, j + 1, by rw [List.map_append]; rfl, h4, by omega, by rw [List.length_append, List.length_singleton]; omega, fun _ => by rw [List.length_append, List.length_singleton]; omega, fun q hq' => ?_, ?_, (haft.trans ha4).up (by omega)⟩
      · rcases List.mem_append.mp hq' with hq' | hq'
        · exact hps q hq'
        · rw [List.mem_singleton] at hq'; rw [hq']; exact hp
      · rw [List.nodup_append]
        refine ⟨hnd, List.nodup_cons.mpr ⟨by simp, List.nodup_nil⟩, fun a ha b hb => ?_⟩
        rw [List.mem_singleton] at hb
        rintro rfl
        exact hp' (by rw [← hb]; exact ha)
    · have hp' : p ∈ ps := by simpa using hc
      refine dss_nil (dss_nil ⟨⟨_, _, rfl⟩, ps, m4, j + 1, rfl, h4, by omega, by omega, fun _ => List.length_pos_of_mem hp', hps, hnd, (haft.trans ha4).up (by omega)⟩)
  · rintro ρ m ⟨⟨r1, r2, rfl⟩, ps, m2, j, rfl, h2, hj, hlen, hj1, hps, hnd, haft⟩
    rw [List.length_nil, Nat.add_zero] at hj
    refine dss_cons (ds_ret (de_freeze (dv 3 ⟨_, _, rfl, put_same, ?_⟩)))
    rw [era_put h2]
    exact hq ps m2 hps hnd (hj1 (by omega)) (by omega) (haft.up (by omega))
abbrev sLawPoint : Stmt := topS 86
theorem scLawPoint : FnScope ["_law_wharf_here", "_law_pieces_here", "_law_corner", "_law_found", "_law_least", "_law_under", "_law_inner"] ["_law_wharf_here", "_law_pieces_here"] (C8.fnScope sLawPoint) := ⟨rfl, rfl, rfl, by decide +kernel, rfl, by decide +kernel, by decide +kernel⟩
def spLawPoint : DSp := fun xs μ Q => ∃ (wa : Addr) (cs : List Int) (t : Int) (n : Nat) (ps : List Pc), xs = [.m wa, .d (piecesD ps)] ∧ n ≤ 2 ∧ (∀ p ∈ ps, Dr p n) ∧ ps ≠ [] ∧ ps.length ≤ 100 ∧ cs.length ≤ 100 ∧ Wst μ wa cs t ∧ t ≤ 4800 ∧
  ∀ qs μ', qs.length = n → Pw 14 qs → Aft μ wa cs (t + 20) μ' → Q (.d (rowD qs)) μ'
theorem ok_law_point (T : Tp K mg "_law_point" sLawPoint ["_law_wharf_here", "_law_pieces_here"] []) (B : Bl mg) (c_moor : C8.Cal P w K mg base 1 "_law_moor" (spD K 2 spLawMoor) []) (c_form : C8.Cal P w K mg base 1 "_law_form" (spD K 2 spLowestIn) []) (c_pick : C8.Cal P w K mg base 2 "_law_pick" (spD K 2 (spLawPick K)) []) (c_add : C8.Cal P w K mg base 2 "_law_add" (spD K 2 spPlusIn) []) : C8.Cal P w K mg base 3 "_law_point" (spD K 2 spLawPoint) [] := by
  refine d_ok (k := 2) T .nil scLawPoint rfl fun f cdv A outer s H E hr xs μ Q hl ⟨wa, cs, t, n, ps, ex, hn, hps, hne0, hlen, hcs, hw, ht, hq⟩ => ?_
  subst ex
  refine dss_cons (ds_par (i := 2) (j := 3) scLawPoint.nd (de_ix (de_call c_pick hr (by decide) (da_cons (dv 0 (da_cons (dv 1 (da_nil ⟨rfl, wa, cs, t, .d (piecesD ps), (ps.map pieceD).map .d, rfl, .inl ⟨_, rfl, rfl⟩, by simpa using hne0, by rw [List.length_map, List.length_map]; omega, hcs, hw, by omega, fun y hy μ1 ha1 => ?_⟩)))))))) 
  obtain ⟨z, hz, rfl⟩ := List.mem_map.mp hy
  obtain ⟨p, hp, rfl⟩ := List.mem_map.mp hz
  have hD := hps p hp
  refine de_int ⟨_, _, _, rfl, rfl, rfl, de_lstM (da_nil ⟨_, rfl, rfl, fun fa hfa => ?_⟩)⟩
  have hne : fa ≠ wa := ha1.st.fresh hfa
  refine dss_cons (ds_for .never (di_tup (dv 2 ⟨_, rfl, ?_⟩)))
  refine dfor_inv (e := PyData.int) (fun l ρ m => (∃ r1 r2 r3, ρ = [some (.m wa), some (.d (piecesD ps)), some (.d (cornD p.corner)), some (.m fa), r1, r2, r3]) ∧ (∀ c ∈ l, c.natAbs ≤ 2) ∧
    ∃ (qs : List Rat) (m2 : Mu), m = put m2 fa (qs.map numD) ∧ m2 fa = none ∧ qs.length + l.length = n ∧ (∀ q ∈ qs, Wi 840 8400 q) ∧ Aft μ wa cs (t + 1 + 5 * qs.length) m2) ?_ ?_ p.corner _ _ ⟨⟨none, none, none, rfl⟩, hD.c, [], μ1, rfl, hfa, by rw [List.length_nil, hD.w.c, Nat.zero_add], fun _ h => by simp at h, ha1.up (by simp only [List.length_nil]; omega)⟩
  · rintro c l ρ m ⟨⟨r1, r2, r3, rfl⟩, hcl, qs, m2, rfl, h2, hlen2, hqs, haft⟩
    have hc2 := hcl c List.mem_cons_self
    rw [List.length_cons] at hlen2
    refine dg_name (i := 4) scLawPoint.nd (dss_cons (ds_set (i := 5) scLawPoint.nd (de_add (de_int (de_call c_moor hr (by decide) (da_cons (dv 0 (da_cons (de_int (da_nil ⟨rfl, wa, cs, t + 1 + 5 * qs.length, 8, rfl, hcs, haft.st.put hne, by omega, by decide, by decide, fun r μ2 hr1 ha2 => ?_⟩))))))))))
    obtain ⟨m3, ha3, rfl⟩ := Aft.under hne ha2
    refine ⟨_, _, rfl, rfl, dss_cons (ds_set (i := 6) scLawPoint.nd (de_call c_add hr (by decide) (da_cons (dv 4 (da_cons (de_call c_form hr (by decide) (da_cons (de_call c_moor hr (by decide) (da_cons (dv 0 (da_cons (de_add (dv 5 (de_int ⟨_, _, rfl, rfl, ?_⟩))))))))))))))⟩
    refine da_nil ⟨rfl, wa, cs, t + 1 + 5 * qs.length + 1, r + 2, ?_, hcs, ha3.st.put hne, by omega, by omega, by omega, fun r5 μ5 hr5 ha5 => ?_⟩
    · rw [show (1 : Int) + (r : Nat) + 1 = ((r + 2 : Nat) : Int) by omega]
    obtain ⟨m6, ha6, rfl⟩ := Aft.under hne ha5
    have hlim : 1 + r < 2 ^ 4000 := Nat.lt_of_le_of_lt (by omega : 1 + r ≤ 2 ^ 4) (Nat.pow_lt_pow_right (by decide) (by decide))
    have wU : Wi 840 840 (mkRat (r5 : Nat) (1 + r)) := Wi.under (by omega) (by omega) (by omega)
    have wC : Wi 840 (2 * 840) (c : Rat) := Wi.int (by decide) hc2
    have sC : Sm (c : Rat) := sm_int (Nat.lt_of_le_of_lt hc2 (Nat.lt_of_lt_of_le (by decide : 2 < 2 ^ 2) (Nat.pow_le_pow_right (by decide) (by decide))))
    have hbig : 840 < 2 ^ 1000 := Nat.lt_of_lt_of_le (by decide : 840 < 2 ^ 10) (Nat.pow_le_pow_right (by decide) (by decide))
    refine da_cons (dv 5 (da_nil ⟨rfl, (r5 : Nat), 1 + r, by rw [Int.natCast_add], by omega, hlim, ?_⟩))
    refine da_nil ⟨rfl, (c : Rat), mkRat (r5 : Nat) (1 + r), by rw [numD_int], sC, wU.sm hbig hbig, ?_⟩
    have h6 : m6 fa = none := by rw [ha6.ne hne, ha3.ne hne]; exact h2
    refine dss_cons (ds_append (dv 3 ⟨_, rfl, _, put_same, de_call c_pick hr (by decide) (da_cons (dv 0 (da_cons (de_lst (da_cons (dv 6 (da_cons (dv 6 (da_cons (dv 6 (da_cons (dv 4 (da_cons (de_add (dv 4 (de_int ⟨_, _, rfl, rfl, ?_⟩))))))))))))))))⟩))
    refine da_cons (de_call c_add hr (by decide) (da_cons (dv 4 (da_cons (de_tup (da_cons (de_neg (de_int ⟨_, rfl, da_cons (de_int (da_nil ⟨_, rfl, rfl, da_nil ⟨rfl, (c : Rat), mkRat (-1) 7, by rw [numD_int, seventh], sC, ?_, ?_⟩⟩))⟩))))))))
    · exact (Wi.under (a := -1) (u := 7) (by decide) (by decide) (by decide)).sm hbig hbig
    refine da_cons (de_sub (de_call c_moor hr (by decide) (da_cons (dv 0 (da_cons (de_int (da_nil ⟨rfl, wa, cs, t + 1 + 5 * qs.length + 1 + 1, 9, rfl, hcs, ha6.st.put hne, by omega, by decide, by decide, fun r7 μ7 hr7 ha7 => ?_⟩)))))))
    obtain ⟨m8, ha8, rfl⟩ := Aft.under hne ha7
    refine de_int ⟨_, _, rfl, rfl, da_nil ⟨_, rfl, rfl, da_nil ⟨rfl, wa, cs, t + 1 + 5 * qs.length + 1 + 1 + 1, _, _, rfl, .inl ⟨_, rfl, rfl⟩, by simp, Nat.le_of_ble_eq_true rfl, hcs, ha8.st.put hne, by omega, fun y hy μ9 ha9 => ?_⟩⟩⟩
    obtain ⟨m10, ha10, rfl⟩ := Aft.under hne ha9
    have wi : ∀ i : Int, i.natAbs ≤ 4 → Wi 840 8400 (i : Rat) := fun i hi => (Wi.int (D := 840) (N := 4) (by decide) hi).mono (by decide)
    have wIn := (wC.add wU).mono (N' := 8400) (by decide)
    obtain ⟨q, hwq, ey⟩ : ∃ q, Wi 840 8400 q ∧ y = .d (numD q) := by
      simp only [List.map_cons, List.map_nil, List.mem_cons, List.not_mem_nil, or_false] at hy
      rcases hy with rfl | rfl | rfl | rfl | rfl | rfl | rfl
      · exact ⟨_, wIn, rfl⟩
      · exact ⟨_, wIn, rfl⟩
      · exact ⟨_, wIn, rfl⟩
      · exact ⟨_, wi c (by omega), by rw [numD_int]⟩
      · exact ⟨_, wi (c + 1) (by omega), by rw [numD_int]⟩
      · exact ⟨_, (wC.add (Wi.under (a := -1) (u := 7) (by decide) (by decide) (by decide))).mono (by decide), rfl⟩
      · exact ⟨_, wi ((r7 : Nat) - 4) (by omega), by rw [numD_int]⟩
    subst ey
    refine ⟨qs.map numD, numD q, rfl, put_same, by rw [List.length_map]; omega, ?_⟩
    rw [put_put]
    refine dss_nil ⟨⟨_, _, _, rfl⟩, fun x hx => hcl x (List.mem_cons_of_mem _ hx), qs ++ [q], m10, by rw [List.map_append]; rfl, by rw [ha10.ne hne, ha8.ne hne]; exact h6, by rw [List.length_append, List.length_singleton]; omega, fun x hx => ?_, ((((haft.trans ha3).trans ha6).trans ha8).trans ha10).up (by rw [List.length_append, List.length_singleton]; omega)⟩
    rcases List.mem_append.mp hx with hx | hx
    · exact hqs x hx
    · rw [List.mem_singleton] at hx; rw [hx]; exact hwq
  · rintro ρ m ⟨⟨r1, r2, r3, rfl⟩, _, qs, m2, rfl, h2, hlen2, hqs, haft⟩
    rw [List.length_nil, Nat.add_zero] at hlen2
    refine dss_cons (ds_ret (de_drop fa (de_tuple B.tuple (dv 3 ⟨_, items_m (a := fa) put_same, ?_⟩))))
    rw [era_put h2]
    exact hq qs m2 hlen2 ⟨by omega, 840, 8400, by decide, by decide, by decide, hqs⟩ (haft.up (by omega))
end
end T12
end
section
set_option Elab.async false
set_option linter.all false
set_option maxRecDepth 100000
set_option maxHeartbeats 4000000
set_option exponentiation.threshold 5000
namespace T12
open PySem PySem.Spec PyProof.Rows L2
section
variable {P : Program} {w : World} {K : PySem.W.Frag} {mg : Str → Option Value} {base : Heap}
abbrev sLawWay : Stmt := topS 88
abbrev nWay : List Str := ["_law_wharf_here", "_law_pieces_here", "_law_point_here", "_law_many", "_law_found", "_law_here", "_law_turn", "_law_held", "_law_number_here", "_law_piece_here"]
theorem scLawWay : FnScope nWay ["_law_wharf_here", "_law_pieces_here", "_law_point_here", "_law_many"] (C8.fnScope sLawWay) := ⟨rfl, rfl, rfl, by decide +kernel, rfl, by decide +kernel, by decide +kernel⟩
def spLawWay : DSp := fun xs μ Q => ∃ (wa : Addr) (cs : List Int) (t : Int) (ps : List Pc) (qs : List Rat) (a k : Nat), xs = [.m wa, .d (piecesD ps), .d (rowD qs), .d (.int (k : Nat))] ∧ (∀ p ∈ ps, Pk p) ∧ ps ≠ [] ∧ ps.length ≤ 100 ∧ Pw a qs ∧ k ≤ 6 ∧ a + 32 * k ≤ 380 ∧ cs.length ≤ 100 ∧ Wst μ wa cs t ∧ t ≤ 4800 ∧
  ∀ ns μ', ns.length = k → (∀ n ∈ ns, n < ps.length) → Aft μ wa cs (t + 20) μ' → Q (.d (wayD ns)) μ'
theorem ok_law_way (T : Tp K mg "_law_way" sLawWay ["_law_wharf_here", "_law_pieces_here", "_law_point_here", "_law_many"] []) (B : Bl mg) (c_moor : C8.Cal P w K mg base 1 "_law_moor" (spD K 2 spLawMoor) []) (c_pick : C8.Cal P w K mg base 2 "_law_pick" (spD K 2 (spLawPick K)) []) (c_holds : C8.Cal P w K mg base 3 "_law_holds" (spD K 2 spHeldIn) []) (c_leads : C8.Cal P w K mg base 3 "_law_leads" (spD K 2 spLawLeads) []) : C8.Cal P w K mg base 4 "_law_way" (spD K 4 spLawWay) [] := by
  refine d_ok (k := 3) T .nil scLawWay rfl fun f cdv A outer s H E hr xs μ Q hl ⟨wa, cs, t, ps, qs, a, k, ex, hps, hne0, hlen, hqs, hk, ha, hcs, hw, ht, hq⟩ => ?_
  subst ex
  refine dss_cons (ds_parT (i := 4) (j := 5) scLawWay.nd (de_lstM (da_nil ⟨_, rfl, rfl, fun fa hfa => dv 2 ?_⟩)))
  have hne : fa ≠ wa := hw.fresh hfa
  have hpl : 0 < ps.length := List.length_pos_iff.mpr hne0
  refine dss_cons (ds_for .never (di_range B.range (dv 3 ⟨k, rfl, by omega, by omega, ?_⟩)))
  refine dfor_inv (e := fun i : Nat => .int (i : Nat)) (fun l ρ m => (∃ (cur : List Rat) (b : Nat) (r1 r2 r3 r4 : Option SV), ρ = [some (.m wa), some (.d (piecesD ps)), some (.d (rowD qs)), some (.d (.int (k : Nat))), some (.m fa), some (.d (rowD cur)), r1, r2, r3, r4] ∧ Pw b cur ∧ b + 32 * l.length ≤ 380) ∧
    ∃ (ns : List Nat) (m2 : Mu), m = put m2 fa (ns.map fun n => .int (n : Nat)) ∧ m2 fa = none ∧ ns.length + l.length = k ∧ (∀ n ∈ ns, n < ps.length) ∧ Aft μ wa cs (t + 2 * ns.length) m2) ?_ ?_ (List.range k) _ _ ⟨⟨qs, a, none, none, none, none, rfl, hqs, by rw [List.length_range]; omega⟩, [], μ, rfl, hfa, by rw [List.length_range, List.length_nil, Nat.zero_add], fun _ h => by simp at h, hw.refl.up (by simp only [List.length_nil]; omega)⟩
  · rintro i l ρ m ⟨⟨cur, b, r1, r2, r3, r4, rfl, hcur, hb⟩, ns, m2, rfl, h2, hlen2, hns, haft⟩
    rw [List.length_cons] at hlen2 hb
    refine dg_name (i := 6) scLawWay.nd (dss_cons (slc2c 7 8 9 scLawWay (di_enum B.enumerate (dv 1 ⟨_, rfl, ?_, ?_⟩))))
    · rw [enumD_map, List.length_map, List.length_zip, List.length_range]; omega
    rw [enumD_map]
    refine dlc_filter (e := fun x : Nat × Pc => .tuple [.int (x.1 : Nat), pieceD x.2]) (g := fun x : Nat × Pc => .int (x.1 : Nat)) (t := fun x : Nat × Pc => heldQ x.2.corner cur) _ [] (fun z hz => ⟨_, rfl, fun m => ⟨fun s0 H0 C0 cl0 fp0 => ?_, fun _ s0 H0 C0 cl0 fp0 => dv 8 ⟨rfl, rfl⟩⟩⟩) ?_
    · obtain ⟨g1, g2, g3⟩ := holds_args (hps _ (mem_zip_r hz)) hcur (by omega)
      exact dt_val (de_call c_holds hr (by decide) (da_cons (dv 9 (da_cons (dv 5 (da_nil ⟨rfl, z.2, cur, rfl, g1, g2, g3, _, rfl, rfl, rfl⟩))))))
    rw [List.nil_append]
    have hst := haft.st.put (ds := ns.map fun n => PyData.int (n : Nat)) hne
    -- the rest of the turn, from the place that was drawn
    have rest : ∀ (n : Nat) (hd : PyData) (m3 : Mu) (r9 : Option SV), n < ps.length → Aft μ wa cs (t + 2 * ns.length + 2) m3 → m3 fa = none → DSs (BD P w K mg base nWay "_law_way" sLawWay f cdv A outer s H E) (List.drop 2 (forBody (List.getD (C8.fnBody sLawWay) 1 (.Pass ⟨0, 0, 0, 0⟩))))
        [some (.m wa), some (.d (piecesD ps)), some (.d (rowD qs)), some (.d (.int (k : Nat))), some (.m fa), some (.d (rowD cur)), some (.d (.int (i : Nat))), some (.d hd), some (.d (.int (n : Nat))), r9] (put m3 fa (ns.map fun n => .int (n : Nat)))
        { nx := fun ρ m => (∃ (cur : List Rat) (b : Nat) (r1 r2 r3 r4 : Option SV), ρ = [some (.m wa), some (.d (piecesD ps)), some (.d (rowD qs)), some (.d (.int (k : Nat))), some (.m fa), some (.d (rowD cur)), r1, r2, r3, r4] ∧ Pw b cur ∧ b + 32 * l.length ≤ 380) ∧
            ∃ (ns : List Nat) (m2 : Mu), m = put m2 fa (ns.map fun n => .int (n : Nat)) ∧ m2 fa = none ∧ ns.length + l.length = k ∧ (∀ n ∈ ns, n < ps.length) ∧ Aft μ wa cs (t + 2 * ns.length) m2,
          rt := Q,
          ct := fun ρ m => (∃ (cur : List Rat) (b : Nat) (r1 r2 r3 r4 : Option SV), ρ = [some (.m wa), some (.d (piecesD ps)), some (.d (rowD qs)), some (.d (.int (k : Nat))), some (.m fa), some (.d (rowD cur)), r1, r2, r3, r4] ∧ Pw b cur ∧ b + 32 * l.length ≤ 380) ∧
            ∃ (ns : List Nat) (m2 : Mu), m = put m2 fa (ns.map fun n => .int (n : Nat)) ∧ m2 fa = none ∧ ns.length + l.length = k ∧ (∀ n ∈ ns, n < ps.length) ∧ Aft μ wa cs (t + 2 * ns.length) m2,
          bk := fun ρ' μ' => DSs (BD P w K mg base nWay "_law_way" sLawWay f cdv A outer s H E) (List.drop 2 (C8.fnBody sLawWay)) ρ' μ' { nx := fun _ m => Q (.d .none) m, rt := Q } } := by
      intro n hd m3 r9 hn3 ha3 h3
      have hp : ps[n]? = some ps[n] := List.getElem?_eq_getElem hn3
      generalize ps[n] = p at hp
      have hk2 := hps p (List.mem_of_getElem? hp)
      refine dss_cons (ds_append (dv 4 ⟨_, rfl, _, put_same, dv 8 ⟨_, _, rfl, put_same, ?_, ?_⟩⟩))
      · rw [List.length_map]; omega
      rw [put_put]
      obtain ⟨D, N, h0, h1, hN2, hi⟩ := hk2.ex
      obtain ⟨hcl, D2, N2, k0, k1, k2, hww⟩ := hcur
      refine dss_cons (ds_set (i := 5) scLawWay.nd (de_call c_leads hr (by decide) (da_cons (de_ix (dv 1 (dv 8 ⟨ps.map pieceD, (n : Nat), pieceD p, rfl, rfl, atI_map' hp, ?_⟩))))))
      refine da_cons (dv 5 (da_nil ⟨rfl, _, _, .t, p.rows, p.shift, cur, D, N, D2, N2, rfl, rfl, hi.l.2.1, hi.r, hi.s, hww, ⟨h0, le400 h1 (by decide)⟩, ⟨k0, le400 k1 (by omega)⟩, le400 hN2 (by decide), le400 k2 (by omega), dss_nil ?_⟩))
      refine ⟨⟨_, b + 32, _, _, _, _, rfl, led_pw hk2 ⟨hcl, D2, N2, k0, k1, k2, hww⟩, by omega⟩, ns ++ [n], m3, by rw [List.map_append]; rfl, h3, by rw [List.length_append, List.length_singleton]; omega, fun x hx => ?_, ha3.up (by rw [List.length_append, List.length_singleton]; omega)⟩
      rcases List.mem_append.mp hx with hx | hx
      · exact hns x hx
      · rw [List.mem_singleton] at hx; rw [hx]; exact hn3
    have moorAny : ∀ (hd : PyData) (μ9 : Mu), Aft (put m2 fa (ns.map fun n => PyData.int (n : Nat))) wa cs (t + 2 * ns.length + 1) μ9 → DE (BD P w K mg base nWay "_law_way" sLawWay f cdv A outer s H E) (ifElse (asgVal (List.getD (forBody (List.getD (C8.fnBody sLawWay) 1 (.Pass ⟨0, 0, 0, 0⟩))) 1 (.Pass ⟨0, 0, 0, 0⟩))))
        [some (.m wa), some (.d (piecesD ps)), some (.d (rowD qs)), some (.d (.int (k : Nat))), some (.m fa), some (.d (rowD cur)), some (.d (.int (i : Nat))), some (.d hd), r3, r4] μ9 (fun x m' => ∃ n m3, x = .d (.int (n : Nat)) ∧ m' = put m3 fa (ns.map fun n => .int (n : Nat)) ∧ n < ps.length ∧ Aft μ wa cs (t + 2 * ns.length + 2) m3 ∧ m3 fa = none) := by
      intro hd μ9 ha9
      refine de_call c_moor hr (by decide) (da_cons (dv 0 (da_cons (de_len B.len (dv 1 ⟨_, rfl, da_nil ⟨rfl, wa, cs, t + 2 * ns.length + 1, ps.length, ?_, hcs, ha9.st, by omega, hpl, by omega, fun r μ' hr1 ha10 => ?_⟩⟩)))))
      · rw [List.length_map]
      obtain ⟨m3, ha3, e3⟩ := Aft.under hne (ha9.trans ha10)
      exact ⟨r, m3, rfl, e3, hr1, (haft.trans ha3).up (by omega), by rw [ha3.ne hne]; exact h2⟩
    generalize hidx : ((List.range ps.length).zip ps).filter (fun x : Nat × Pc => heldQ x.2.corner cur) = idx
    have hmem : ∀ x ∈ idx, x.1 < ps.length := fun x hx => by
      rw [← hidx, List.mem_filter] at hx
      exact List.mem_range.mp (mem_zip_l hx.1)
    have hil : idx.length ≤ 1000 := by
      rw [← hidx]
      refine Nat.le_trans (List.length_filter_le _ _) ?_
      rw [List.length_zip, List.length_range]; omega
    refine dss_cons (ds_set (i := 8) scLawWay.nd (de_if (dt_w (dw_and (dt_cmp (dc_neD hr (dv 7 (de_lst (da_nil ⟨_, rfl, rfl, _, _, rfl, rfl, ?_, rfl, _, rfl, ?_⟩)))))))))
    · refine Pn.shaped (n := 1) (.lst fun d hd => ?_) (by decide)
      obtain ⟨z, _, rfl⟩ := List.mem_map.mp hd
      exact .int _ _
    rw [eqv_nil]
    refine ite2 (fun hc => ?_) (fun hc => iteF ((moorAny (.list (idx.map fun x : Nat × Pc => .int (x.1 : Nat))) _ (hst.refl.up (by omega))).imp fun x m' ⟨n, m3, ex, em, hn3, ha3, h3⟩ => by
      subst ex em
      exact rest n (.list (idx.map fun x : Nat × Pc => .int (x.1 : Nat))) m3 r4 hn3 ha3 h3))
    refine dw_and1 (dt_cmp (dc_gt (de_call c_moor hr (by decide) (da_cons (dv 0 (da_cons (de_int (da_nil ⟨rfl, wa, cs, t + 2 * ns.length, 9, rfl, hcs, hst, by omega, by decide, by decide, fun r μ' hr3 ha4 => ?_⟩))))))))
    refine de_int ⟨_, _, rfl, rfl, _, rfl, ite2 (fun hc3 => ?_) (fun hc3 => (moorAny (.list (idx.map fun x : Nat × Pc => .int (x.1 : Nat))) _ ha4).imp fun x m' ⟨n, m3, ex, em, hn3, ha3, h3⟩ => by
      subst ex em
      exact rest n (.list (idx.map fun x : Nat × Pc => .int (x.1 : Nat))) m3 r4 hn3 ha3 h3)⟩
    have hidne : idx ≠ [] := fun e => by rw [e] at hc; cases hc
    refine de_call c_pick hr (by decide) (da_cons (dv 0 (da_cons (dv 7 (da_nil ⟨rfl, wa, cs, t + 2 * ns.length + 1, .d (.list (idx.map fun x : Nat × Pc => .int (x.1 : Nat))), _, rfl, .inl ⟨_, rfl, rfl⟩, by simpa using hidne, by rw [List.length_map, List.length_map]; exact hil, hcs, ha4.st, by omega, fun y hy μ5 ha5 => ?_⟩)))))
    obtain ⟨d, hd, rfl⟩ := List.mem_map.mp hy
    obtain ⟨x, hx, rfl⟩ := List.mem_map.mp hd
    obtain ⟨m3, ha3, rfl⟩ := Aft.under hne (ha4.trans ha5)
    exact rest x.1 _ m3 _ (hmem x hx) ((haft.trans ha3).up (by omega)) (by rw [ha3.ne hne]; exact h2)
  · rintro ρ m ⟨⟨cur, b, r1, r2, r3, r4, rfl, _, _⟩, ns, m2, rfl, h2, hlen2, hns, haft⟩
    rw [List.length_nil, Nat.add_zero] at hlen2
    refine dss_cons (ds_ret (de_freeze (dv 4 ⟨_, _, rfl, put_same, ?_⟩)))
    rw [era_put h2]
    exact hq ns m2 hlen2 hns (haft.up (by omega))
end
end T12
end
section
set_option Elab.async false
set_option linter.all false
set_option maxRecDepth 100000
set_option maxHeartbeats 4000000
set_option exponentiation.threshold 5000
namespace T12
open PySem PySem.Spec PyProof.Rows L2
theorem sqL_mono {K : PySem.W.Frag} {G G' : Hp} (e : Ex G G') {a : Addr} {xs : List V} (h : SqL K G a xs) : SqL K G' a xs := by
  rcases h with h | h
  · exact .inl (e.rd h)
  · exact .inr h
/-- the script: a list of ints -/
def scR (K : PySem.W.Frag) (ns : List Int) : PrR := ⟨fun G v => ∃ a, v = .ref a ∧ SqL K G a (ns.map V.int), fun G G' v e ⟨a, h1, h2⟩ => ⟨a, h1, sqL_mono e h2⟩⟩
def cutI (ns : List Int) (n : Int) : List Int := (ns.drop (HT.sIx ns.length 0 none)).take (HT.sIx ns.length ns.length (some n) - HT.sIx ns.length 0 none)
theorem cut58 (ns : List Int) : (cutI ns 58).length ≤ 58 := by
  unfold cutI
  rw [List.length_take, show HT.sIx ns.length ns.length (some 58) = min 58 ns.length from HT.sIx_nat _ _ 58, HT.sIx_none]
  omega
theorem dvall_ints {G : Hp} : ∀ ns : List Int, DvAll G (ns.map V.int) (ns.map PyData.int)
  | [] => .nil
  | n :: ns => .cons (.int n) (dvall_ints ns)
section
variable {X : Cx} {ρ : Sl} {μ : Mu} {Q : SV → Mu → Prop} {a : Expr} {pos p p2 : Pos}
theorem de_cutP {n : Int} {j : Nat} (h : DE X a ρ μ fun x m => ∃ ns, x = .pr (scR X.K ns) ∧ Q (.d (.list ((cutI ns n).map .int))) m) : DE X (.Subscript a (.Slice none (some (.Constant (.int n) j p)) none p2) pos) ρ μ Q := fun σ H R Qc k =>
  cE_of (pe_slice sl_list (pe_k a) po_none (po_some pe_int)) (h σ H R _ fun x m v H1 ⟨ns, ex, q⟩ e1 m1 r1 => by
    subst ex
    obtain ⟨l, rfl, h1⟩ := (show ∃ a, v = .ref a ∧ SqL X.K (hid H1 m) a (ns.map V.int) from r1)
    refine ⟨n, rfl, l, _, rfl, sqL_mono hid_le h1, fun t ht => ?_⟩
    refine k _ m _ _ q (e1.trans (ex_new ht)) (m1.new ht) (.lst (.inl (hid_new m1 ht)) ?_)
    have e : cutV (ns.map V.int) none (some n) = (cutI ns n).map V.int := by
      unfold cutV cutI
      rw [List.length_map, ← List.map_drop, ← List.map_take]
    rw [e]
    exact dvall_ints _)
end
section
variable {P : Program} {w : World} {K : PySem.W.Frag} {mg : Str → Option Value} {base : Heap}
abbrev sLawWharf : Stmt := topS 73
theorem scLawWharf : FnScope ["_law_script", "_law_cell"] ["_law_script"] (C8.fnScope sLawWharf) := ⟨rfl, rfl, rfl, by decide +kernel, rfl, by decide +kernel, by decide +kernel⟩
def spLawWharf (K : PySem.W.Frag) : DSp := fun xs μ Q => ∃ (ns : List Int), xs = [.pr (scR K ns)] ∧ ∀ p, μ p = none → Q (.m p) (put μ p (whD (cutI ns 58) 0 0))
theorem ok_law_wharf (T : Tp K mg "_law_wharf" sLawWharf ["_law_script"] []) (B : Bl mg) : C8.Cal P w K mg base 1 "_law_wharf" (spD K 1 (spLawWharf K)) [] := by
  refine d_ok (k := 0) T .nil scLawWharf rfl fun f cdv A outer s H E hr xs μ Q hl ⟨ns, ex, hq⟩ => ?_
  subst ex
  have h58 := cut58 ns
  refine dss_cons (ds_ret (de_lstM (da_cons (lc1 1 scLawWharf (di_list (de_cutP (dv 0 ⟨ns, rfl, _, rfl, ?_, ?_⟩)))))))
  · rw [List.length_map]; omega
  refine dlc_map (e := PyData.int) (g := PyData.int) (cutI ns 58) [] (fun z hz => ⟨_, rfl, fun m s0 H0 C0 cl0 fp0 => de_intc B.int (dv 1 ⟨_, rfl, rfl, rfl⟩)⟩) ?_
  exact da_cons (de_int (da_cons (de_int (da_nil ⟨_, rfl, rfl, hq⟩))))
end
end T12
end
section
set_option Elab.async false
set_option linter.all false
set_option maxRecDepth 100000
/-! set(xs) of pairwise different nested tuples. The steps are those of HandS.TupSets (tuples of ints), turned to KE.KeyNested's keys. -/
namespace T12
open PySem PySem.Spec PyProof.Rows L2
section
variable {P : Program} {w : World} {A : Around} {E : Value → Shared → Prop} {s : Shared}
/-- of no class statement, n levels down -/
def CalmAt (P : Program) (w : World) (n : Nat) (s : Shared) (v : Value) : Prop := ∀ (A : Around) (E : Value → Shared → Prop) (Q : Bool → Shared → Prop), Q false s → wpAny (model P w) A (ofAClassStatement n v) Q E s
theorem CalmAt.tuple {n : Nat} {a : Addr} {o : Obj} {vs : Array Value} {m : Nat} (ho : s.heap.get? a = some o) (hc : o.cls = .type "tuple") (hd : o.data = .seq vs m) (hq : ∀ v ∈ vs.toList, CalmAt P w n s v) : CalmAt P w (n + 1) s (.ref a) := fun A E Q h => by
  have hT : s.TypeIs (.ref a) "tuple" := ⟨o, ho, hc⟩
  unfold ofAClassStatement
  refine wpAny_bind (wpAny_typeOf hT ?_)
  dsimp only
  have e : (("tuple" : String) == "tuple") = true := by decide
  simp only [e, if_true, Bool.not_true, Bool.false_eq_true, if_false]
  try refine wpAny_bind (wpAny_pure ?_)
  try simp only [Bool.not_true, Bool.false_eq_true, if_false]
  show wpAny _ _ (seqItems? (.ref a) >>= _) _ _ s
  refine wpAny_bind (wpAny_seqItems ho hd ?_)
  dsimp only
  refine wpAny_bind ?_
  show wpAny _ _ (forIn vs _ _) _ _ s
  rw [← Array.forIn_toList]
  refine wpAny_forIn_list _ (fun rest r s' => r.1 = none ∧ s' = s ∧ ∀ v ∈ rest, CalmAt P w n s v) _ ?_ ?_ _ _ ⟨rfl, rfl, hq⟩
  · rintro v rest r s' ⟨hr, rfl, hall⟩
    refine wpAny_bind (hall v List.mem_cons_self _ _ _ ?_)
    simp only [Bool.false_eq_true, if_false]
    exact wpAny_pure ⟨rfl, rfl, fun u hu' => hall u (List.mem_cons_of_mem _ hu')⟩
  · rintro ⟨r1, r2⟩ s' ⟨hr, rfl, _⟩
    simp only at hr
    subst hr
    exact wpAny_pure h
theorem calm_none (n : Nat) : ofAClassStatement n .none = pure false := by cases n <;> rfl
theorem calm_bool (n : Nat) (b : Bool) : ofAClassStatement n (.bool b) = pure false := by cases n <;> rfl
theorem calm_str (n : Nat) (x : Str) (t : Tok) : ofAClassStatement n (.str x t) = pure false := by cases n <;> rfl
mutual
theorem calm_key : ∀ (k : NestedKey) (v : Value) (n : Nat), NestedIs s.heap k v → k.depth ≤ n → CalmAt P w n s v
  | .none, _, n, x, _ => by
    cases x
    intro A E Q h; rw [calm_none]; exact wpAny_pure h
  | .num i, _, n, x, _ => by
    cases x with
    | int _ t => intro A E Q h; rw [ofAClass_int]; exact wpAny_pure h
    | bool e => intro A E Q h; rw [calm_bool]; exact wpAny_pure h
  | .text y, _, n, x, _ => by
    cases x
    intro A E Q h; rw [calm_str]; exact wpAny_pure h
  | .tup ks, _, n, x, hn => by
    cases x with
    | tup hg hc hd hk =>
      simp only [NestedKey.depth] at hn
      cases n with
      | zero => omega
      | succ n => exact .tuple hg hc hd (calm_keys ks _ n hk (by omega))
theorem calm_keys : ∀ (ks : List NestedKey) (vs : List Value) (n : Nat), NestedAll s.heap ks vs → NestedKey.depthAll ks ≤ n → ∀ v ∈ vs, CalmAt P w n s v
  | [], _, n, x, _, v, hv => by cases x; cases hv
  | k :: ks, _, n, x, hn, v, hv => by
    cases x with
    | cons x1 x2 =>
      simp only [NestedKey.depthAll] at hn
      rcases List.mem_cons.mp hv with e | hv
      · rw [e]; exact calm_key k _ n x1 (by omega)
      · exact calm_keys ks _ n x2 (by omega) v hv
end
/-- hashed by value, n levels down -/
def ByAt (P : Program) (w : World) (n : Nat) (s : Shared) (v : Value) : Prop := ∀ (A : Around) (E : Value → Shared → Prop) (Q : Bool → Shared → Prop), Q true s → wpAny (model P w) A (hashByValue n v) Q E s
theorem ByAt.tuple {n : Nat} {a : Addr} {o : Obj} {vs : Array Value} {m : Nat} (ho : s.heap.get? a = some o) (hc : o.cls = .type "tuple") (hd : o.data = .seq vs m) (hq : ∀ v ∈ vs.toList, ByAt P w n s v) : ByAt P w (n + 1) s (.ref a) := fun A E Q h => by
  have hT : s.TypeIs (.ref a) "tuple" := ⟨o, ho, hc⟩
  unfold hashByValue
  refine wpAny_bind (wpAny_specialOf hT F.slot_tuple_hash.lookup ?_)
  show wpAny _ _ (seqItems? (.ref a) >>= _) _ _ s
  refine wpAny_bind (wpAny_seqItems ho hd ?_)
  refine wpAny_bind ?_
  show wpAny _ _ (forIn vs _ _) _ _ s
  rw [← Array.forIn_toList]
  refine wpAny_forIn_list _ (fun rest r s' => r.1 = none ∧ s' = s ∧ ∀ v ∈ rest, ByAt P w n s v) _ ?_ ?_ _ _ ⟨rfl, rfl, hq⟩
  · rintro v rest r s' ⟨hr, rfl, hall⟩
    refine wpAny_bind (hall v List.mem_cons_self _ _ _ ?_)
    simp only [Bool.not_true, Bool.false_eq_true, if_false]
    exact wpAny_pure ⟨rfl, rfl, fun u hu' => hall u (List.mem_cons_of_mem _ hu')⟩
  · rintro ⟨r1, r2⟩ s' ⟨hr, rfl, _⟩
    simp only at hr
    subst hr
    exact wpAny_pure h
theorem by_none (n : Nat) : hashByValue n .none = pure true := by cases n <;> rfl
theorem by_bool (n : Nat) (b : Bool) : hashByValue n (.bool b) = pure true := by cases n <;> rfl
mutual
/-- no text in it -/
def noTx : NestedKey → Bool
  | .none => true
  | .num _ => true
  | .text _ => false
  | .tup ks => noTxAll ks
def noTxAll : List NestedKey → Bool
  | [] => true
  | k :: ks => noTx k && noTxAll ks
end
mutual
theorem by_key : ∀ (k : NestedKey) (v : Value) (n : Nat), NestedIs s.heap k v → k.depth ≤ n → noTx k = true → ByAt P w n s v
  | .none, _, n, x, _, _ => by
    cases x
    intro A E Q h; rw [by_none]; exact wpAny_pure h
  | .num i, _, n, x, _, _ => by
    cases x with
    | int _ t => intro A E Q h; rw [hashBy_int]; exact wpAny_pure h
    | bool e => intro A E Q h; rw [by_bool]; exact wpAny_pure h
  | .text y, _, n, x, _, ht => by simp [noTx] at ht
  | .tup ks, _, n, x, hn, ht => by
    cases x with
    | tup hg hc hd hk =>
      simp only [NestedKey.depth] at hn
      simp only [noTx] at ht
      cases n with
      | zero => omega
      | succ n => exact .tuple hg hc hd (by_keys ks _ n hk (by omega) ht)
theorem by_keys : ∀ (ks : List NestedKey) (vs : List Value) (n : Nat), NestedAll s.heap ks vs → NestedKey.depthAll ks ≤ n → noTxAll ks = true → ∀ v ∈ vs, ByAt P w n s v
  | [], _, n, x, _, _, v, hv => by cases x; cases hv
  | k :: ks, _, n, x, hn, ht, v, hv => by
    cases x with
    | cons x1 x2 =>
      simp only [NestedKey.depthAll] at hn
      simp only [noTxAll, Bool.and_eq_true] at ht
      rcases List.mem_cons.mp hv with e | hv
      · rw [e]; exact by_key k _ n x1 (by omega) ht.1
      · exact by_keys ks _ n x2 (by omega) ht.2 v hv
end
/-- the tuple at a is the key k -/
def IsN (h : Heap) (k : NestedKey) (a : Addr) : Prop := NestedIs h k (.ref a) ∧ k.depth ≤ 8 ∧ noTx k = true
theorem isN_tup {h : Heap} {k : NestedKey} {a : Addr} (x : IsN h k a) : ∃ o vs n, h.get? a = some o ∧ o.cls = .type "tuple" ∧ o.data = .seq vs n := by
  obtain ⟨x, _⟩ := x
  cases x with
  | tup h1 h2 h3 _ => exact ⟨_, _, _, h1, h2, h3⟩
theorem isN_keep {h h' : Heap} {k : NestedKey} {b : Addr} (x : IsN h k b) (hk : ∀ c o, h.get? c = some o → h'.get? c = some o) : IsN h' k b := ⟨NestedIs.at (fun a o vs n ho hd => hk a o ho) _ _ x.1, x.2⟩
theorem isN_same {h h' : Heap} {k : NestedKey} {a b : Addr} {o : Obj} {es : Array (Int × Value)} {ep : Nat} {t : SetTable} (hb : IsN h k b) (ho : h.get? a = some o) (hd : o.data = .set es ep t) (hs : Heap.SameBut a h h') : IsN h' k b := by
  refine ⟨NestedIs.at (fun c o' vs n ho' hd' => ?_) _ _ hb.1, hb.2⟩
  have hne : c ≠ a := by
    rintro rfl
    obtain rfl : o' = o := Option.some.inj (ho'.symm.trans ho)
    rw [hd] at hd'
    exact nomatch hd'
  exact (hs.2 c hne).trans ho'
theorem seen_key {k : NestedKey} {b : Addr} {Q : Bool → Shared → Prop} (hk : IsN s.heap k b) {ys : List Value} (hy : ∀ y ∈ ys, ∃ k' c, y = Value.ref c ∧ IsN s.heap k' c) (h : Q false s) :
    wpAny (model P w) A (searchCouldBeSeen (.ref b) ys) Q E s := by
  unfold searchCouldBeSeen
  refine wpAny_bind ?_
  refine wpAny_forIn_list _ (fun rest r s' => r.1 = none ∧ s' = s ∧ ∀ y ∈ rest, ∃ k' c, y = Value.ref c ∧ IsN s.heap k' c) _ ?_ ?_ _ _ ⟨rfl, rfl, hy⟩
  · rintro v rest r s' ⟨hr, rfl, hall⟩
    obtain ⟨k', c, rfl, hc⟩ := hall v List.mem_cons_self
    have rest' : ∀ y ∈ rest, ∃ k' c, y = Value.ref c ∧ IsN s'.heap k' c := fun u hu' => hall u (List.mem_cons_of_mem _ hu')
    dsimp only
    by_cases hv : (b == c || (carriedByValue (.ref b) && carriedByValue (.ref c))) = true
    · refine wp_if_pos hv ?_
      exact wpAny_pure ⟨rfl, rfl, rest'⟩
    · refine wp_if_neg hv ?_
      refine wpAny_bind (quiet_key k _ 8 s' hk.1 hk.2.1 _ _ _ ?_)
      simp only [Bool.not_true, Bool.false_eq_true, if_false]
      refine wpAny_bind (quiet_key k' _ 8 s' hc.1 hc.2.1 _ _ _ ?_)
      simp only [Bool.not_true, Bool.false_eq_true, if_false]
      refine wpAny_bind (calm_key k _ 8 hk.1 hk.2.1 _ _ _ ?_)
      simp only [Bool.false_eq_true, if_false]
      refine wpAny_bind (calm_key k' _ 8 hc.1 hc.2.1 _ _ _ ?_)
      simp only [Bool.false_eq_true, if_false]
      exact wpAny_pure ⟨rfl, rfl, rest'⟩
  · rintro ⟨r1, r2⟩ s' ⟨hr, rfl, _⟩
    simp only at hr
    subst hr
    exact wpAny_pure h
end
/-! ### the set -/
abbrev NL := List (Addr × NestedKey)
def rowsN (w : World) (L : NL) : List (Int × Value) := L.map fun p => (p.2.hash w, Value.ref p.1)
structure SetN (w : World) (h : Heap) (a : Addr) (L : NL) (es : Array (Int × Value)) (ep : Nat) (t : SetTable) : Prop where
  ob : ∃ o, h.get? a = some o ∧ o.ExactSet ∧ o.data = .set es ep t
  rows : es.toList = rowsN w L
  tab : TabOk t (L.map fun p => p.2.hash w)
  nd : (L.map (·.2)).Nodup
  tup : ∀ p ∈ L, IsN h p.2 p.1
  plain : t.plain = true
  led : w.params.followText "set-order" = true ∨ t.led = true
  room : L.length * 5 < t.mask * 3
  few : L.length < 64
section
variable {P : Program} {w : World} {A : Around} {E : Value → Shared → Prop} {s : Shared} {a : Addr} {L : NL} {es : Array (Int × Value)} {ep : Nat} {t : SetTable}
theorem rowsN_len {es : Array (Int × Value)} {L : NL} (h : es.toList = rowsN w L) : es.size = L.length := by
  have h := congrArg List.length h
  unfold rowsN at h
  rw [Array.length_toList, List.length_map] at h
  exact h
theorem SetN.size (R : SetN w s.heap a L es ep t) : es.size = L.length := rowsN_len R.rows
theorem SetN.fits (R : SetN w s.heap a L es ep t) : t.fits es.size = true := by
  have h1 := R.tab.sz
  rw [List.length_map] at h1
  have h2 := R.size
  have h3 := R.room
  unfold SetTable.fits SetTable.fill
  rw [R.tab.dm, Bool.and_eq_true, beq_iff_eq, decide_eq_true_eq]
  show t.place.size = es.size ∧ t.place.size + 0 ≤ t.mask
  omega
theorem SetN.entry (R : SetN w s.heap a L es ep t) {i : Nat} {p : Addr × NestedKey} (h : L[i]? = some p) : es[i]? = some (p.2.hash w, Value.ref p.1) := by
  rw [← Array.getElem?_toList, R.rows]
  unfold rowsN
  rw [List.getElem?_map, h] <;> rfl
theorem SetN.gw (R : SetN w s.heap a L es ep t) : ¬ t.gaveWay = true := by
  unfold SetTable.gaveWay
  rw [mask_odd R.tab.mok]
  decide
theorem eqB_key {k k' : NestedKey} {b c : Addr} {Q : Bool → Shared → Prop} (hu : A.units + 8 < cLine) (hb : IsN s.heap k b) (hc : IsN s.heap k' c) (hne : k ≠ k') (h : Q false s) : wpAny (model P w) A (eqBool (.ref b) (.ref c)) Q E s :=
  (nestedKind P w).eqBool hu ⟨hb.1, hb.2.1⟩ ⟨hc.1, hc.2.1⟩ (by rw [decide_eq_false hne]; exact h)
/-- the search for a key that isn't in it ends at the first empty slot of its way -/
theorem searchN (R : SetN w s.heap a L es ep t) {x : Addr} {k : NestedKey} (hx : IsN s.heap k x) (hu : A.units + 8 < cLine) {K : Nat} (hKf : K < 10 * SetTable.turns t.mask)
    (hK : way t.mask (k.hash w) K ∉ t.place.toList) (hKb : ∀ c, c < K → way t.mask (k.hash w) c ∈ t.place.toList) (hno : k ∉ L.map (·.2)) {Q : SetFound → Shared → Prop}
    (hq : Q (.free (way t.mask (k.hash w) K) false) s) :
    ∀ (f c : Nat) (stand : Option SetTable.Probe), stand.getD (t.probeStart (k.hash w)) = nth t.mask (runAt t.mask (SetTable.bits (k.hash w) % (t.mask + 1)) (SetTable.bits (k.hash w))) c → c ≤ K → K - c < f →
      wpAny (model P w) A (setSearchFrom a (.ref x) (k.hash w) true f stand) Q E s
  | 0, c, stand, _, _, hf => absurd hf (Nat.not_lt_zero _)
  | f + 1, c, stand, hst, hc, hf => by
    obtain ⟨o, ho, hex, hd⟩ := R.ob
    rw [setSearchFrom_succ]
    refine wpAny_bind (wpAny_setState_of ho hd R.fits ?_)
    dsimp only
    refine wp_if_neg R.gw ?_
    try refine wpAny_bind (wpAny_pure ?_)
    generalize hp0 : runAt t.mask (SetTable.bits (k.hash w) % (t.mask + 1)) (SetTable.bits (k.hash w)) = p0 at hst
    have hnd : (nth t.mask p0 c).dummy = none := by
      have key : ∀ (n : Nat) (p : SetTable.Probe), p.dummy = none → (nth t.mask p n).dummy = none := by
        intro n
        induction n with
        | zero => intro p h; exact h
        | succ n ih =>
          intro p h
          refine ih (adv t.mask p) ?_
          unfold adv
          split <;> exact h
      exact key c p0 (by rw [← hp0]; rfl)
    have e0 : ∀ q, (nth t.mask p0 q).j = way t.mask (k.hash w) q := fun q => by rw [← hp0]
    have sh : ∀ q, nth t.mask (nth t.mask p0 c) q = nth t.mask p0 (c + q) := fun q => (nth_add t.mask c _ q).symm
    have e1 : ∀ q, (nth t.mask (nth t.mask p0 c) q).j = way t.mask (k.hash w) (c + q) := fun q => by rw [sh, e0]
    have spec := go_spec t R.tab.ris R.tab.dm (fun i => (es[i]?.map (·.1)).getD 0) (k.hash w) (10 * SetTable.turns t.mask) (K - c) _ hnd (by omega)
      (fun q hq => by rw [e1]; exact hKb (c + q) (by omega)) (by rw [e1, show c + (K - c) = K by omega]; exact hK)
    rcases spec with ⟨q, i, hq1, hi, hh, _, hpr⟩ | ⟨_, hpr⟩
    · have hpr' : t.probe (fun i => (es[i]?.map (·.1)).getD 0) (k.hash w) (stand.getD (t.probeStart (k.hash w))) = some (.candidate (way t.mask (k.hash w) (c + q)) i (nth t.mask p0 (c + (q + 1)))) := by
        rw [hst, ← e1, ← sh]
        exact hpr
      rw [hpr']
      dsimp only
      rw [e1] at hi
      have hil : i < L.length := by
        have h1 : i < t.place.toList.length := (List.getElem?_eq_some_iff.mp hi).1
        have h2 := R.tab.sz
        rw [List.length_map] at h2
        rw [Array.length_toList] at h1
        omega
      have hp : L[i]? = some L[i] := List.getElem?_eq_getElem hil
      generalize L[i] = p at hp
      have hmem : p ∈ L := List.mem_of_getElem? hp
      have hpt := R.tup p hmem
      have hkk : p.2 ≠ k := fun e => hno (List.mem_map.mpr ⟨p, hmem, e⟩)
      have rest : wpAny (model P w) A (searchRest a (.ref x) (k.hash w) true f es t (way t.mask (k.hash w) (c + q)) i (nth t.mask p0 (c + (q + 1)))) Q E s := by
        unfold searchRest
        rw [R.entry hp]
        dsimp only
        refine wpAny_bind (wpAny_holding (eqB_key hu hpt hx hkk ?_))
        refine wpAny_bind (wpAny_setState_of ho hd R.fits ?_)
        dsimp only
        refine wp_if_neg (by simp) ?_
        try refine wpAny_bind (wpAny_pure ?_)
        rw [sameMem]
        dsimp only
        have hsl : t.slot (way t.mask (k.hash w) (c + q)) = .live i := slot_live R.tab.ris hi
        simp only [if_true, hsl, R.entry hp]
        refine wpAny_bind (wpAny_isSame_ref_self (wpAny_bind (wpAny_pure ?_)))
        simp only [if_true]
        refine wp_if_neg (by simp) ?_
        exact searchN R hx hu hKf hK hKb hno hq f (c + (q + 1)) _ (by rw [hp0]; rfl) (by omega) (by omega)
      by_cases hl : t.led = true
      · refine wp_if_neg (by simp [hl]) ?_
        try refine wpAny_bind (wpAny_pure ?_)
        exact rest
      · refine wp_if_pos (by simp [hl]) ?_
        refine wpAny_bind (seen_key hx (fun y hy => ?_) ?_)
        · obtain ⟨e, he, ee⟩ := List.mem_map.mp hy
          have he1 : e ∈ es ∧ e.1 = k.hash w := by simpa using he
          have he2 : e ∈ es.toList := by simpa using he1.1
          rw [R.rows] at he2
          obtain ⟨p2, hp2, e2⟩ := List.mem_map.mp he2
          refine ⟨p2.2, p2.1, ?_, R.tup p2 hp2⟩
          rw [← ee, ← e2]
        · refine wp_if_neg (by decide) ?_
          try refine wpAny_bind (wpAny_pure ?_)
          exact rest
    · have hpr' : t.probe (fun i => (es[i]?.map (·.1)).getD 0) (k.hash w) (stand.getD (t.probeStart (k.hash w))) = some (.empty (way t.mask (k.hash w) K) none) := by
        have e2 : way t.mask (k.hash w) K = (nth t.mask (nth t.mask p0 c) (K - c)).j := by
          rw [e1, show c + (K - c) = K by omega]
        rw [hst, e2]
        exact hpr
      rw [hpr']
      dsimp only
      exact wpAny_pure hq
theorem search_newN (R : SetN w s.heap a L es ep t) {x : Addr} {k : NestedKey} (hx : IsN s.heap k x) (hu : A.units + 8 < cLine) (hno : k ∉ L.map (·.2)) {Q : SetFound → Shared → Prop}
    (hq : ∀ K, way t.mask (k.hash w) K ∉ t.place.toList → (∀ c, c < K → way t.mask (k.hash w) c ∈ t.place.toList) → Q (.free (way t.mask (k.hash w) K) false) s) :
    wpAny (model P w) A (setSearch a (.ref x) (k.hash w) true) Q E s := by
  have hroom := R.room
  obtain ⟨K, hKf, hK, hKb⟩ := R.tab.first (by rw [List.length_map]; omega) (k.hash w)
  have hbig : K < 100000 := by
    have : 10 * SetTable.turns t.mask ≤ 1420 := by
      unfold SetTable.turns
      rcases R.tab.mok with e | e | e <;> omega
    omega
  unfold setSearch
  exact searchN R hx hu hKf hK hKb hno (hq K hK hKb) 100000 0 none rfl (Nat.zero_le _) (by omega)
theorem orderN (L : NL) (es : Array (Int × Value)) (order : Array Nat) (hr : es.toList = rowsN w L) (hp : order.toList.Perm (List.range L.length)) :
    ∃ L2, (order.filterMap (es[·]?)).toList = rowsN w L2 ∧ L2.Perm L ∧ (L2.map fun p => p.2.hash w) = order.toList.map fun i => (es.map (·.1)).getD i 0 := by
  have hsz := rowsN_len hr
  have ent : ∀ i (h : i < L.length), es[i]? = some ((L[i]).2.hash w, Value.ref (L[i]).1) := fun i h => by
    rw [← Array.getElem?_toList, hr]
    unfold rowsN
    rw [List.getElem?_map, List.getElem?_eq_getElem h] <;> rfl
  have key : ∀ l : List Nat, (∀ i ∈ l, i < L.length) → ∃ L2 : NL, l.filterMap (fun i => es[i]?) = rowsN w L2 ∧ L2 = l.filterMap (fun i => L[i]?) ∧ (L2.map fun p => p.2.hash w) = l.map fun i => (es.map (·.1)).getD i 0 := by
    intro l
    induction l with
    | nil => intro _; exact ⟨[], rfl, rfl, rfl⟩
    | cons i l ih =>
      intro hl
      have hi := hl i List.mem_cons_self
      obtain ⟨L2, e1, e2, e3⟩ := ih fun j hj => hl j (List.mem_cons_of_mem _ hj)
      refine ⟨L[i] :: L2, ?_, ?_, ?_⟩
      · rw [List.filterMap_cons_some (ent i hi), e1] <;> rfl
      · rw [List.filterMap_cons_some (List.getElem?_eq_getElem hi), e2]
      · rw [List.map_cons, List.map_cons, e3]
        have e4 : (es.map (·.1)).getD i 0 = (L[i]).2.hash w := by
          have e5 : (es.map (·.1))[i]? = some ((L[i]).2.hash w) := by rw [Array.getElem?_map, ent i hi] <;> rfl
          simp [Array.getD_eq_getD_getElem?, e5]
        rw [e4]
  obtain ⟨L2, e1, e2, e3⟩ := key order.toList fun i hi => List.mem_range.mp (hp.mem_iff.mp hi)
  refine ⟨L2, by first | (rw [Array.toList_filterMap]; exact e1) | simpa using e1, ?_, e3⟩
  have h1 : L2.Perm ((List.range L.length).filterMap fun i => L[i]?) := by
    rw [e2]
    exact hp.filterMap _
  have h2 : (List.range L.length).filterMap (fun i => L[i]?) = L := by
    have key2 : ∀ n, n ≤ L.length → (List.range n).filterMap (fun i => L[i]?) = L.take n := by
      intro n
      induction n with
      | zero => intro _; rfl
      | succ n ih =>
        intro hn
        have hlt : n < L.length := hn
        rw [List.range_succ, List.filterMap_append, ih (Nat.le_of_lt hlt), List.take_succ, List.getElem?_eq_getElem hlt]
        rw [List.filterMap_cons_some (List.getElem?_eq_getElem hlt)] <;> rfl
    rw [key2 L.length (Nat.le_refl _), List.take_length]
  rw [h2] at h1
  exact h1
theorem relayN {o : Obj} (ho : s.heap.get? a = some o) (hex : o.ExactSet) (hd : o.data = .set es ep t) (hrows : es.toList = rowsN w L) (hsz : t.place.size = es.size) (hdm : t.dummies = #[]) (hfl : es.size ≤ t.mask)
    (nd : (L.map (·.2)).Nodup) (tup : ∀ p ∈ L, IsN s.heap p.2 p.1) (pl : t.plain = true) (ld : w.params.followText "set-order" = true ∨ t.led = true) (few : L.length < 64) {wanted M : Nat}
    (hw : SetTable.sizeAbove wanted - 1 = M) (hM : MaskOk M) (hw2 : SetTable.sizeAbove wanted ≤ 128) (hn : L.length * 5 < M * 3) {Q : Unit → Shared → Prop}
    (hQ : ∀ h' L' es' ep' t', Heap.SameBut a s.heap h' → SetN w h' a L' es' ep' t' → L'.Perm L → Q () { s with heap := h' }) : wpAny (model P w) A (setRelay a wanted) Q E s := by
  have hsl := rowsN_len hrows
  have hfits : t.fits es.size = true := by
    unfold SetTable.fits SetTable.fill
    rw [hdm, Bool.and_eq_true, beq_iff_eq, decide_eq_true_eq]
    show t.place.size = es.size ∧ t.place.size + 0 ≤ t.mask
    omega
  obtain ⟨t', order, e, hp, T, em, el, ep', ed⟩ := relaid_ok t (hs := es.map (·.1)) (wanted := wanted) hw hM (by rw [Array.size_map, hsl]; omega)
  rw [Array.size_map, hsl] at hp
  obtain ⟨L2, r1, r2, r3⟩ := orderN (w := w) L es order hrows hp
  rw [← r3] at T
  have hs2 : (order.filterMap (es[·]?)).size = es.size := by
    rw [rowsN_len r1, r2.length_eq, hsl]
  rw [setRelay_eq]
  refine wpAny_bind (wpAny_setState_of ho hd hfits ?_)
  dsimp only
  refine wp_if_neg (by rw [sizeLine_eq]; omega) ?_
  try refine wpAny_bind (wpAny_pure ?_)
  rw [e]
  dsimp only
  refine wpAny_bind ?_
  refine wp_if_neg (by rw [hs2]; simp) ?_
  try refine wpAny_bind (wpAny_pure ?_)
  refine wpAny_pure ?_
  dsimp only
  refine wpAny_storeSet_of ho hd ?_ (by rw [hs2, hsl, sizeLine_eq]; omega)
  have sb : Heap.SameBut a s.heap (s.heap.update a (Obj.putSet (order.filterMap (es[·]?)) t')) := Heap.SameBut.update ..
  refine hQ _ L2 (order.filterMap (es[·]?)) (ep + 1) t' sb ?_ r2
  refine ⟨⟨_, store_at ho hd, ⟨hex.1, hex.2.1, hex.2.2⟩, rfl⟩, r1, T, ?_, fun p hpm => isN_same (tup p (r2.mem_iff.mp hpm)) ho hd sb, by rw [ep']; exact pl, by rw [el]; exact ld, ?_, by rw [r2.length_eq]; exact few⟩
  · exact (r2.map (·.2)).nodup_iff.mpr nd
  · rw [r2.length_eq, em]
    exact hn
theorem addN (R : SetN w s.heap a L es ep t) {x : Addr} {k : NestedKey} (hx : IsN s.heap k x) (hu : A.units + 8 < cLine) (hno : k ∉ L.map (·.2)) (hfew : L.length + 1 < 64) {Q : Bool → Shared → Prop}
    (hQ : ∀ b h' L' es' ep' t', Heap.SameBut a s.heap h' → SetN w h' a L' es' ep' t' → L'.Perm ((x, k) :: L) → Q b { s with heap := h' }) :
    wpAny (model P w) A (setAddHashed a (.ref x) (k.hash w)) Q E s := by
  obtain ⟨o, ho, hex, hd⟩ := R.ob
  have hsl := R.size
  have hroom := R.room
  unfold setAddHashed
  refine wpAny_holding ?_
  rw [show (100000 : Nat) = 99999 + 1 from rfl, setAddHashedIn_succ]
  refine wpAny_bind (wpAny_setState_of ho hd R.fits ?_)
  dsimp only
  refine wp_if_neg (by simp [byScan, Value.scannable]) ?_
  try refine wpAny_bind (wpAny_pure ?_)
  refine wpAny_bind (search_newN R hx hu hno fun K hK hb => ?_)
  dsimp only
  refine wpAny_bind (wpAny_setState_of ho hd R.fits ?_)
  dsimp only
  obtain ⟨q1, q2, q3, q4, q5, q6, q7, q8, q9⟩ := R.tab.put hK hb
  have hp1 : (t.put (way t.mask (k.hash w) K)).1.plain = true := by rw [q6]; exact R.plain
  generalize t.put (way t.mask (k.hash w) K) = pt at q1 q3 q4 q5 q6 q7 q8 q9 hp1 ⊢
  obtain ⟨t1, p⟩ := pt
  dsimp only at q1 q3 q4 q5 q6 q7 q8 q9 hp1 ⊢
  subst q1
  have hby := by_key (P := P) (w := w) (s := s) k _ 8 hx.1 hx.2.1 hx.2.2
  first
    | (refine wpAny_bind ?_; refine wp_if_pos hp1 ?_; refine hby _ _ _ ?_)
    | refine wp_if_pos hp1 (wpAny_bind (hby _ _ _ ?_))
  simp only [if_true]
  have hin : (SetTable.insertAt es (SetTable.below t.place (way t.mask (k.hash w) K)) (k.hash w, Value.ref x)).toList = rowsN w (L.take (SetTable.below t.place (way t.mask (k.hash w) K)) ++ (x, k) :: L.drop (SetTable.below t.place (way t.mask (k.hash w) K))) := by
    rw [SetTable.toList_insertAt, R.rows]
    unfold rowsN
    rw [List.map_append, List.map_cons, List.map_take, List.map_drop]
  generalize SetTable.below t.place (way t.mask (k.hash w) K) = p at q2 q3 hin ⊢
  have pm := put_perm L p (x, k)
  have hlen : (L.take p ++ (x, k) :: L.drop p).length = L.length + 1 := pm.length_eq
  have hhs : (L.take p ++ (x, k) :: L.drop p).map (fun p => p.2.hash w) = (L.map fun p => p.2.hash w).take p ++ k.hash w :: (L.map fun p => p.2.hash w).drop p := by
    rw [List.map_append, List.map_cons, List.map_take, List.map_drop]
  rw [← hhs] at q3
  have nd1 : ((L.take p ++ (x, k) :: L.drop p).map (·.2)).Nodup := by
    refine (pm.map (·.2)).nodup_iff.mpr ?_
    rw [List.map_cons]
    exact List.nodup_cons.mpr ⟨hno, R.nd⟩
  have hes : (SetTable.insertAt es p (k.hash w, Value.ref x)).size = L.length + 1 := by
    rw [rowsN_len hin, hlen]
  generalize SetTable.insertAt es p (k.hash w, Value.ref x) = es1 at hin hes ⊢
  generalize L.take p ++ (x, k) :: L.drop p = L1 at pm hlen q3 nd1 hin
  refine wpAny_bind (wpAny_storeSet_of ho hd ?_ (by rw [hes, sizeLine_eq]; omega))
  have sb : Heap.SameBut a s.heap (s.heap.update a (Obj.putSet es1 t1)) := Heap.SameBut.update ..
  have ho1 := store_at (es' := es1) (t' := t1) ho hd
  generalize s.heap.update a (Obj.putSet es1 t1) = h1 at sb ho1 ⊢
  have tup1 : ∀ p ∈ L1, IsN h1 p.2 p.1 := fun p hp => by
    rcases List.mem_cons.mp (pm.mem_iff.mp hp) with e | hp
    · rw [e]; exact isN_same hx ho hd sb
    · exact isN_same (R.tup p hp) ho hd sb
  have ld1 : w.params.followText "set-order" = true ∨ t1.led = true := by rw [q5]; exact R.led
  by_cases hf : t1.tooFull = true
  · first
      | (refine wpAny_bind ?_; refine wp_if_pos (by simp [hf]) ?_)
      | (refine wp_if_pos (by simp [hf]) ?_; refine wpAny_bind ?_)
    have hfull : (L.length + 1) * 5 ≥ t1.mask * 3 := by
      have h := hf
      unfold SetTable.tooFull at h
      rw [decide_eq_true_eq, q9, List.length_map] at h
      exact h
    rw [hsl]
    have hsz1 : t1.place.size = es1.size := by
      have h := q3.sz
      rw [List.length_map, hlen] at h
      rw [h, hes]
    have cases2 : (t.mask = 7 ∧ L.length = 4) ∨ (t.mask = 31 ∧ L.length = 18) := by
      rcases R.tab.mok with e | e | e
      · left; rw [q4, e] at hfull; rw [e] at hroom; exact ⟨e, by omega⟩
      · right; rw [q4, e] at hfull; rw [e] at hroom; exact ⟨e, by omega⟩
      · exfalso; rw [q4, e] at hfull; omega
    have go : ∀ M, SetTable.sizeAbove (SetTable.grown (L.length + 1)) - 1 = M → MaskOk M → SetTable.sizeAbove (SetTable.grown (L.length + 1)) ≤ 128 → (L.length + 1) * 5 < M * 3 →
        wpAny (model P w) A (setRelay a (SetTable.grown (L.length + 1))) (fun _ s' => wpAny (model P w) A (pure true) Q E s') E { s with heap := h1 } := fun M h1' h2' h3' h4' => by
      refine relayN (s := { s with heap := h1 }) ho1 ⟨hex.1, hex.2.1, hex.2.2⟩ rfl hin hsz1 q3.dm (by rw [hes, q4]; rcases cases2 with ⟨e, e2⟩ | ⟨e, e2⟩ <;> omega) nd1 tup1 hp1 ld1 (by rw [hlen]; exact hfew) h1' h2' h3' (by rw [hlen]; exact h4') ?_
      intro h2 L2 es2 ep2 t2 sb2 R2 pm2
      exact wpAny_pure (hQ true h2 L2 es2 ep2 t2 (sb.trans sb2) R2 (pm2.trans pm))
    rcases cases2 with ⟨_, e2⟩ | ⟨_, e2⟩
    · refine go 31 (by rw [e2, size_20]) (.inr (.inl rfl)) (by rw [e2, size_20]; decide) (by omega)
    · refine go 127 (by rw [e2, size_76]) (.inr (.inr rfl)) (by rw [e2, size_76]; decide) (by omega)
  · first
      | refine wp_if_neg (by simp [hf]) ?_
      | (refine wpAny_bind ?_; refine wp_if_neg (by simp [hf]) ?_; refine wpAny_pure ?_)
    refine wpAny_pure (hQ true h1 L1 es1 (ep + 1) t1 sb ⟨⟨_, ho1, ⟨hex.1, hex.2.1, hex.2.2⟩, rfl⟩, hin, q3, nd1, tup1, hp1, ld1, ?_, by rw [hlen]; exact hfew⟩ pm)
    have h := hf
    unfold SetTable.tooFull at h
    rw [decide_eq_true_eq, q9, List.length_map] at h
    rw [hlen]
    omega
theorem SetN.keep {h h' : Heap} (R : SetN w h a L es ep t) (ha : ∀ o, h.get? a = some o → h'.get? a = some o) (ht : ∀ p ∈ L, IsN h' p.2 p.1) : SetN w h' a L es ep t := by
  obtain ⟨o, ho, r⟩ := R.ob
  exact ⟨⟨o, ha o ho, r⟩, R.rows, R.tab, R.nd, ht, R.plain, R.led, R.room, R.few⟩
theorem setN_fresh {h : Heap} {a : Addr} (ho : h.get? a = some { cls := .type "set", dict := none, data := .set #[] 0 (.fresh 0 0 (!w.params.followText "set-order")) }) : SetN w h a [] #[] 0 (.fresh 0 0 (!w.params.followText "set-order")) where
  ob := ⟨_, ho, ⟨rfl, rfl, rfl⟩, rfl⟩
  rows := rfl
  tab := ⟨List.Pairwise.nil, rfl, rfl, .inl rfl, fun x hx => (by cases hx), fun i h j hi => (by simp at hi)⟩
  nd := List.nodup_nil
  tup := fun p hp => (by cases hp)
  plain := rfl
  led := by
    show _ ∨ (!w.params.followText "set-order") = true
    cases w.params.followText "set-order"
    · exact .inr rfl
    · exact .inl rfl
  room := by
    show 0 * 5 < 7 * 3
    decide
  few := by
    show 0 < 64
    decide
end
end T12
end
section
set_option Elab.async false
set_option linter.all false
set_option maxRecDepth 100000
namespace T12
open PySem PySem.Spec PyProof.Rows L2
section
variable {P : Program} {w : World} {A : Around} {E : Value → Shared → Prop} {s : Shared}
/-- set.update's loop over pairwise different keys -/
theorem set_updateN {I : Addr} {fp wr : List Addr} {G : Array GenState → Array GenState → Prop} {n : Nat} {Pv : Nat → Value → Prop} {St : Nat → Shared → Prop} {R : Result → Shared → Prop}
    (W : WalksS P w A.in1 I fp wr G n Pv St) (S : Addr) (hSf : S ∉ fp) (ks : NL) (hn : n = ks.length) (hfew : ks.length < 64) (hval : ∀ i v, Pv i v → ∃ p, ks[i]? = some p ∧ v = .ref p.1) (hnd : (ks.map (·.2)).Nodup)
    (h0 : Heap) (hk : ∀ p ∈ ks, IsN h0 p.2 p.1) (hS0 : h0.get? S = none) (hw0 : ∀ b ∈ wr, h0.get? b = none) (hu : A.in1.units + 8 < cLine) :
    ∀ (k i : Nat) (s : Shared), n - i = k → i ≤ n → St i s → (∀ b o, h0.get? b = some o → s.heap.get? b = some o) → (∃ L es ep t, SetN w s.heap S L es ep t ∧ L.Perm (ks.take i)) →
      (∀ s' L es ep t, Moved (S :: wr) G s s' → SetN w s'.heap S L es ep t → L.Perm ks → (∀ b o, h0.get? b = some o → s'.heap.get? b = some o) → R (.ok (.ret .none)) s') →
      codeAny (model P w) A (.builtin "set.update.loop" ⟨[.ref S, .ref I], []⟩) R s := by
  have hSw : S ∉ wr := fun h => hSf (W.sub _ h)
  have hsub : ∀ b ∈ wr, b ∈ S :: wr := fun b hb => List.mem_cons_of_mem _ hb
  have keepM : ∀ {s s' : Shared}, Moved wr G s s' → (∀ b o, h0.get? b = some o → s.heap.get? b = some o) → ∀ b o, h0.get? b = some o → s'.heap.get? b = some o := fun hm hkp b o e =>
    hm.heap b o (fun hb => by rw [hw0 b hb] at e; cases e) (hkp b o e)
  intro k
  induction k with
  | zero =>
    intro i s hk' hi hst hkp ⟨L, es, ep, t, hS, g⟩ hR
    have hin : i = n := by omega
    subst hin
    refine codeAny_builtin F.entry_set_update_loop ?_
    rw [Around.under_plainId F.plain_set_update_loop _]
    show wpAny _ A.in1 (pyNext (.ref I) >>= _) _ _ s
    refine wpAny_bind (W.done s _ _ hst fun s' hm => ?_)
    show wpAny _ A.in1 (ret Value.none) _ _ s'
    have hkp' := keepM hm hkp
    have g2 : L.Perm ks := by rw [hn, List.take_length] at g; exact g
    exact wpAny_pure (hR s' L es ep t (hm.mono hsub) (hS.keep (fun o e => hm.heap S o hSw e) fun p hp => isN_keep (hk p (g2.mem_iff.mp hp)) hkp') g2 hkp')
  | succ k ih =>
    intro i s hk' hi hst hkp ⟨L, es, ep, t, hS, g⟩ hR
    have hlt : i < n := by omega
    refine codeAny_builtin F.entry_set_update_loop ?_
    rw [Around.under_plainId F.plain_set_update_loop _]
    show wpAny _ A.in1 (pyNext (.ref I) >>= _) _ _ s
    refine wpAny_bind (W.item i s _ _ hlt hst fun v s' hP hst' hm => ?_)
    obtain ⟨p, hp, rfl⟩ := hval i v hP
    have hkp' := keepM hm hkp
    have sub : ∀ q ∈ L, q ∈ ks := fun q hq => List.mem_of_mem_take (g.mem_iff.mp hq)
    have hS' : SetN w s'.heap S L es ep t := hS.keep (fun o e => hm.heap S o hSw e) fun q hq => isN_keep (hk q (sub q hq)) hkp'
    have hx : IsN s'.heap p.2 p.1 := isN_keep (hk p (List.mem_of_getElem? hp)) hkp'
    have hnew : p.2 ∉ L.map (·.2) := fun hm => by
      obtain ⟨q, hq, e⟩ := List.mem_map.mp hm
      have hq2 := g.mem_iff.mp hq
      obtain ⟨j, hj, ej⟩ := List.getElem_of_mem hq2
      rw [List.getElem_take] at ej
      have hji : j < i := by rw [List.length_take] at hj; omega
      have hil : i < ks.length := by omega
      have e2 : ks[i] = p := by rw [List.getElem?_eq_getElem hil] at hp; exact Option.some.inj hp
      have := List.pairwise_iff_getElem.mp hnd j i (by rw [List.length_map]; omega) (by rw [List.length_map]; omega) hji
      rw [List.getElem_map, List.getElem_map, ej, e2] at this
      exact this e
    have hLlen : L.length ≤ i := by rw [g.length_eq, List.length_take]; omega
    show wpAny _ A.in1 (holding [Value.ref p.1] (setAdd S (.ref p.1)) >>= _) _ _ s'
    refine wpAny_bind (wpAny_holding ?_)
    unfold setAdd
    refine wpAny_holding ?_
    refine wpAny_bind (pyHash_key (prog := P) (w := w) p.2 _ _ _ _ hx.1 (by have := hx.2.1; omega) ?_)
    refine addN (s := { s' with toks := s'.toks + p.2.draws }) hS' hx hu hnew (by omega) fun b h' L' es' ep' t' hsb hS2 pm => ?_
    have g' : L'.Perm (ks.take (i + 1)) := by
      rw [take_next hp]
      refine pm.trans ?_
      have e : p :: L = [p] ++ L := rfl
      rw [show ((p.1, p.2) :: L : NL) = [p] ++ L from rfl]
      exact List.perm_append_comm.trans (g.append_right [p])
    have hkp2 : ∀ b o, h0.get? b = some o → h'.get? b = some o := fun b o e => (hsb.2 b (fun z => by rw [z, hS0] at e; cases e)).trans (hkp' b o e)
    refine wpAny_pure ⟨plainId_quiet F.plain_set_update_loop _, ih (i + 1) _ (by omega) hlt (W.frame _ s' _ _ hst' (Nat.le_add_right _ _) fun b hb o e => ?_) hkp2 ⟨L', es', ep', t', hS2, g'⟩ fun s'' L2 es2 ep2 t2 hm'' hS'' g'' hkp'' => ?_⟩
    · rw [hsb.2 b (fun h : b = S => hSf (by rw [← h]; exact hb))]; exact e
    · refine hR s'' L2 es2 ep2 t2 (Moved.trans W.gtrans ((hm.mono hsub).then_heap (Nat.le_add_right _ _) fun b o hb e => ?_) hm'') hS'' g'' hkp''
      rw [hsb.2 b (fun h : b = S => hb (by rw [h]; exact List.mem_cons_self))]; exact e
set_option maxHeartbeats 3200000 in
/-- set(xs), xs a tuple of pairwise different keys -/
theorem call_setN {l : Addr} {items : Array Value} (ks : NL) {Q : Value → Shared → Prop} (hh : A.handled = none) (hl : s.heap.IsTuple l items) (hit : items.toList = ks.map fun p => Value.ref p.1)
    (hk : ∀ p ∈ ks, IsN s.heap p.2 p.1) (hnd : (ks.map (·.2)).Nodup) (hfew : ks.length < 64) (hu : A.units + 20 < cLine)
    (h : ∀ (h' : Heap) (tk : Nat) L es ep t, SetN w h' s.heap.objs.size L es ep t → L.Perm ks → (∀ b o, s.heap.get? b = some o → h'.get? b = some o) → Q (.ref s.heap.objs.size) { s with heap := h', toks := tk }) :
    wpAny (model P w) A (call (.type "set") [.ref l]) Q E s := by
  have hisz : items.size = ks.length := by
    have q := congrArg List.length hit
    rw [Array.length_toList, List.length_map] at q
    exact q
  obtain ⟨c, tl, hmro⟩ := F.called_set.mro
  have hmade := F.called_set.made
  have hsub := F.called_set.sub
  refine wpAny_call (codeAny_of_tree ?_)
  show wpAny _ _ (callAny (.type "set") _) _ _ _
  refine wpAny_pure ⟨Code.quiet_builtin _ (by decide +kernel), codeAny_builtin F.entry_type_call ?_⟩
  rw [Around.under_plain (weight_type_call_type "set" [.ref l] []) rfl]
  have h1 := F.called_set.notType
  have h2 := F.called_set.canCreate
  have hct := F.typeCall_set_1 (.ref l)
  repeat (any_goals (first | assumption | wp_step))

  refine codeAny_mono (code_set_led1 (.ref l) (E := E) (Q₁ := fun obj s₁ => obj = .ref s.heap.objs.size ∧ s₁ = { s with heap := s.heap.push { cls := .type "set", dict := none, data := .set #[] 0 (.fresh 0 0 (!w.params.followText "set-order")) } }) ⟨rfl, rfl⟩) fun r s₁ hr => ?_
  cases r with
  | error e => exact hr
  | ok fl =>
    cases fl with
    | ret obj =>
      obtain ⟨rfl, rfl⟩ := hr
      have hS : (s.heap.push { cls := .type "set", dict := none, data := .set #[] 0 (.fresh 0 0 (!w.params.followText "set-order")) }).get? s.heap.objs.size = some { cls := .type "set", dict := none, data := .set #[] 0 (.fresh 0 0 (!w.params.followText "set-order")) } := Heap.get?_push_size _ rfl
      have hT : Shared.TypeIs { s with heap := s.heap.push { cls := .type "set", dict := none, data := .set #[] 0 (.fresh 0 0 (!w.params.followText "set-order")) } } (.ref s.heap.objs.size) "set" := ⟨_, hS, rfl⟩
      have hli := F.called_set.init.lookup
      have hbi := F.called_set.init.bind (.ref s.heap.objs.size)
      repeat (any_goals (first | assumption | wp_step))

      refine codeAny_mono (codeAny_call_builtin (R := wants (fun r s₂ => r = .none ∧ ∃ h' tk L es ep t, s₂ = { s with heap := h', toks := tk } ∧ SetN w h' s.heap.objs.size L es ep t ∧ L.Perm ks ∧
          (∀ b o, s.heap.get? b = some o → h'.get? b = some o)) E) F.called_set.init.plain F.entry_set_init (check_set_init_1 hT ?_)) fun r₂ s₂ hr₂ => ?_
      · obtain ⟨ol, hol, hcl, nl, hdl⟩ := hl
        obtain ⟨ocls, odict, odata, oslots⟩ := ol
        simp only at hcl hdl
        subst hcl; subst hdl
        have hol' : (s.heap.push { cls := .type "set", dict := none, data := .set #[] 0 (.fresh 0 0 (!w.params.followText "set-order")) }).get? l = some { cls := .type "tuple", dict := odict, data := .seq items nl, slots := oslots } := Heap.get?_push_of_some _ hol
        have hsls := F.sub_tuple_set
        have hslf := F.sub_tuple_frozenset
        have hne : (Value.type "tuple" == Value.type "dict") = false := by decide
        have hl1 : (s.heap.push { cls := .type "set", dict := none, data := .set #[] 0 (.fresh 0 0 (!w.params.followText "set-order")) }).IsTuple l items := ⟨_, hol', rfl, nl, rfl⟩
        unfold Builtin.«set.__init__» noKeywords Builtin.Frozenset.updateFrom
        generalize hPI : pyIter = PI
        wp_walk
        subst hPI

        refine wpAny_pyIter_tuple hl1 ?_
        refine wpAny_bind (wpAny_runValue ?_)
        have hlS : l < s.heap.objs.size := Heap.lt_size hol
        have hh3 : A.in1.in1.in1.handled = none := by simp [hh]
        have hz1 : (s.heap.push { cls := .type "set", dict := none, data := .set #[] 0 (.fresh 0 0 (!w.params.followText "set-order")) }).objs.size = s.heap.objs.size + 1 := Heap.size_push ..
        have hneI : l ≠ (s.heap.push { cls := .type "set", dict := none, data := .set #[] 0 (.fresh 0 0 (!w.params.followText "set-order")) }).objs.size := by
          rw [Heap.size_push]; exact Nat.ne_of_lt (Nat.lt_succ_of_lt hlS)
        have hSf : s.heap.objs.size ∉ [(s.heap.push { cls := .type "set", dict := none, data := .set #[] 0 (.fresh 0 0 (!w.params.followText "set-order")) }).objs.size, l] := by
          rw [Heap.size_push]; simp only [List.mem_cons, List.mem_singleton, List.not_mem_nil, or_false, not_or]
          exact ⟨Nat.ne_of_lt (Nat.lt_succ_self _), Nat.ne_of_gt hlS⟩
        have hval : ∀ (i : Nat) (v : Value), items[i]? = some v → ∃ p, ks[i]? = some p ∧ v = .ref p.1 := fun i v hv => by
          have q : items.toList[i]? = some v := by rw [Array.getElem?_toList]; exact hv
          rw [hit, List.getElem?_map] at q
          cases hq : ks[i]? with
          | none => rw [hq] at q; cases q
          | some p =>
            rw [hq] at q
            exact ⟨p, rfl, (Option.some.inj q).symm⟩
        have none_of : ∀ b, s.heap.objs.size ≤ b → s.heap.get? b = none := fun b hb => by
          cases q : s.heap.get? b with
          | none => rfl
          | some o => exact absurd (Nat.lt_of_lt_of_le (Heap.lt_size q) hb) (Nat.lt_irrefl _)
        refine set_updateN ((Walks.tuple hh3 _ l hneI items).toS) s.heap.objs.size
          hSf ks hisz hfew hval hnd s.heap hk (none_of _ (Nat.le_refl _)) (fun b hb => none_of b (by
            rw [List.mem_singleton.mp hb, Heap.size_push]
            exact Nat.le_succ _)) (by simp only [Around.in1_units]; omega) (items.size - 0) 0 _ (by omega) (Nat.zero_le _)
          ⟨⟨_, Heap.get?_push_size _ rfl, rfl, rfl⟩, (hl1.push _)⟩ (fun b o e => Heap.get?_push_of_some _ (Heap.get?_push_of_some _ e)) ?hS0 ?hR
        case hS0 =>
          have hget : ((s.heap.push { cls := .type "set", dict := none, data := .set #[] 0 (.fresh 0 0 (!w.params.followText "set-order")) }).push { cls := .type "tuple_iterator", data := .fields #[.ref l, .int 0 0] }).get? s.heap.objs.size
              = some { cls := .type "set", dict := none, data := .set #[] 0 (.fresh 0 0 (!w.params.followText "set-order")) } := Heap.get?_push_of_some _ hS
          exact ⟨[], #[], 0, _, setN_fresh hget, List.Perm.nil⟩
        case hR =>
          intro s' L es ep t hm hS' g' hkp
          obtain ⟨h', g2, d', tk', os'⟩ := s'
          have eg : g2 = s.gens := hm.gens
          have ed : d' = s.drawn := hm.drawn
          have eo : os' = s.os := hm.os
          subst eg; subst ed; subst eo
          show wpAny _ _ _ _ _ _
          refine wpAny_pure ?_
          show wpAny _ _ (ret Value.none) _ _ _
          exact wpAny_pure ⟨rfl, h', tk', L, es, ep, t, rfl, hS', g', hkp⟩

      · cases r₂ with
        | error e => exact hr₂
        | ok fl₂ =>
          cases fl₂ with
          | ret r =>
            obtain ⟨rfl, h', tk, L, es, ep, t, rfl, hS', g', hk'⟩ := hr₂
            repeat (any_goals (first | assumption | wp_step))
            exact h _ _ _ _ _ _ hS' g' hk'
          | _ => exact hr₂.elim
    | _ => exact hr.elim
end
end T12
end
section
set_option Elab.async false
set_option linter.all false
set_option maxRecDepth 100000
set_option maxHeartbeats 2000000
namespace T12
open PySem PySem.Spec PyProof.Rows L2
/-! ### data as keys -/
mutual
def kD : PyData → NestedKey
  | .int i => .num i
  | .tuple ds => .tup (kDs ds)
  | _ => .none
def kDs : List PyData → List NestedKey
  | [] => []
  | d :: ds => kD d :: kDs ds
end
theorem kDs_map : ∀ ds : List PyData, kDs ds = ds.map kD
  | [] => by simp [kDs]
  | d :: ds => by rw [kDs, kDs_map ds]; rfl
/-- ints in tuples, at most n deep -/
inductive Tn : Nat → PyData → Prop
  | int (n : Nat) (i : Int) : Tn n (.int i)
  | tup {n : Nat} {ds : List PyData} : (∀ d ∈ ds, Tn n d) → Tn (n + 1) (.tuple ds)
theorem map_inj_on {α β : Type} {f : α → β} : ∀ {l r : List α}, (∀ a ∈ l, ∀ b ∈ r, f a = f b → a = b) → l.map f = r.map f → l = r
  | [], [], _, _ => rfl
  | [], _ :: _, _, q => by simp at q
  | _ :: _, [], _, q => by simp at q
  | a :: l, b :: r, h, q => by
    rw [List.map_cons, List.map_cons, List.cons.injEq] at q
    rw [h a List.mem_cons_self b List.mem_cons_self q.1, map_inj_on (fun x hx y hy => h x (List.mem_cons_of_mem _ hx) y (List.mem_cons_of_mem _ hy)) q.2]
theorem kD_inj : ∀ (n : Nat) (d e : PyData), Tn n d → Tn n e → kD d = kD e → d = e
  | 0, _, _, .int _ i, .int _ j, h => by simp only [kD, NestedKey.num.injEq] at h; rw [h]
  | n + 1, _, _, .int _ i, .int _ j, h => by simp only [kD, NestedKey.num.injEq] at h; rw [h]
  | n + 1, _, _, .int _ i, .tup _, h => by simp [kD] at h
  | n + 1, _, _, .tup _, .int _ j, h => by simp [kD] at h
  | n + 1, _, _, .tup h1, .tup h2, h => by
    simp only [kD, NestedKey.tup.injEq, kDs_map] at h
    rw [map_inj_on (fun a ha b hb => kD_inj n a b (h1 a ha) (h2 b hb)) h]
theorem kD_ok : ∀ (n : Nat) (d : PyData), Tn n d → (kD d).depth ≤ n ∧ noTx (kD d) = true
  | 0, _, .int _ i => by simp [kD, NestedKey.depth, noTx]
  | n + 1, _, .int _ i => by simp [kD, NestedKey.depth, noTx]
  | n + 1, _, .tup (ds := ds) h => by
    have key : ∀ ds : List PyData, (∀ d ∈ ds, Tn n d) → NestedKey.depthAll (kDs ds) ≤ n ∧ noTxAll (kDs ds) = true := by
      intro ds
      induction ds with
      | nil => intro _; simp [kDs, NestedKey.depthAll, noTxAll]
      | cons d ds ih =>
        intro h
        obtain ⟨a1, a2⟩ := kD_ok n d (h d List.mem_cons_self)
        obtain ⟨b1, b2⟩ := ih fun x hx => h x (List.mem_cons_of_mem _ hx)
        simp only [kDs, NestedKey.depthAll, noTxAll]
        exact ⟨Nat.max_le.mpr ⟨a1, b1⟩, by rw [a2, b2]; rfl⟩
    obtain ⟨b1, b2⟩ := key ds h
    simp only [kD, NestedKey.depth, noTx]
    exact ⟨Nat.succ_le_succ b1, b2⟩
theorem tn_num (q : Rat) : Tn 1 (numD q) := by
  unfold numD
  split
  · exact .int _ _
  · refine .tup fun d hd => ?_
    rcases List.mem_cons.mp hd with rfl | hd
    · exact .int _ _
    · rw [List.mem_singleton] at hd; subst hd; exact .int _ _
theorem Tn.up {n m : Nat} {d : PyData} (h : Tn n d) (hm : n ≤ m) : Tn m d := by
  induction h generalizing m with
  | int n i => exact .int m i
  | tup h ih =>
    cases m with
    | zero => omega
    | succ m => exact .tup fun d hd => ih d hd (by omega)
theorem tn_row (qs : List Rat) : Tn 2 (rowD qs) := .tup fun d hd => by
  obtain ⟨q, _, rfl⟩ := List.mem_map.mp hd
  exact tn_num q
theorem tn_piece (p : Pc) : Tn 4 (pieceD p) := .tup fun d hd => by
  rcases List.mem_cons.mp hd with rfl | hd
  · exact .tup fun d hd => by
      obtain ⟨q, _, rfl⟩ := List.mem_map.mp hd
      exact .int _ _
  rcases List.mem_cons.mp hd with rfl | hd
  · exact .tup fun d hd => by
      obtain ⟨q, _, rfl⟩ := List.mem_map.mp hd
      exact tn_row q
  · rw [List.mem_singleton] at hd; subst hd; exact (tn_row _).up (by decide)
section
variable {X : Cx} {pins : List (Addr × Obj)} {σ : L2.St} {H : Hp} {s : Shared}
mutual
theorem nested_of {n : Nat} (I : Inv X pins σ H s) {G : Hp} (e : Ex G H) : ∀ (d : PyData) (v : V) (u : Value), Tn n d → Dv G v d → RelV v u → NestedIs s.heap (kD d) u
  | .int i, _, _, _, .int _, r => by
    obtain ⟨t, rfl⟩ := r
    simp only [kD]; exact .int i t
  | .tuple ds, _, u, ht, .tup h1 h2, r => by
    cases ht with
    | tup ht =>
      obtain rfl : u = Value.ref _ := r
      obtain ⟨its, rv, ⟨o, ho, hc, m, hd⟩, _⟩ := I.tuple (SqT.of (K := X.K) (e _ _ h1))
      simp only [kD]
      exact .tup ho hc hd (by simpa using nesteds_of I e ds _ _ ht h2 rv)
theorem nesteds_of {n : Nat} (I : Inv X pins σ H s) {G : Hp} (e : Ex G H) : ∀ (ds : List PyData) (vs : List V) (us : List Value), (∀ d ∈ ds, Tn n d) → DvAll G vs ds → Vals vs us → NestedAll s.heap (kDs ds) us
  | [], _, _, _, .nil, .nil => by simp only [kDs]; exact .nil
  | d :: ds, _, _, ht, .cons h1 h2, .cons r1 r2 => by
    simp only [kDs]
    exact .cons (nested_of I e d _ _ (ht d List.mem_cons_self) h1 r1) (nesteds_of I e ds _ _ (fun x hx => ht x (List.mem_cons_of_mem _ hx)) h2 r2)
end
/-- len(set(a)), a a tuple of pairwise different tuples -/
def tLenSetN (K : PySem.W.Frag) (ta : TE) : TE := fun σ H Q => ta σ H fun x H1 => ∃ (l : Addr) (xs : List V) (ds : List (List PyData)) (n : Nat), x = V.ref l ∧ H1 l = some (.tup xs) ∧ DvAll H1 xs (ds.map .tuple) ∧ (∀ d ∈ ds, Tn n (.tuple d)) ∧ n ≤ 8 ∧ ds.Nodup ∧ ds.length < 64 ∧ Q (.int (ds.length : Nat)) H1
theorem refs_of {G : Hp} : ∀ {ds : List (List PyData)} {xs : List V} {us : List Value}, DvAll G xs (ds.map .tuple) → Vals xs us → ∃ as : List Addr, as.length = ds.length ∧ us = as.map Value.ref
  | [], _, _, .nil, .nil => ⟨[], rfl, rfl⟩
  | d :: ds, _, _, .cons (.tup (a := l0) h1 h2) t, .cons r t2 => by
    obtain ⟨as, e1, e2⟩ := refs_of t t2
    obtain rfl := (show _ = Value.ref _ from r)
    exact ⟨l0 :: as, by rw [List.length_cons, List.length_cons, e1], by rw [e2]; rfl⟩
theorem nestedAll_get {h : Heap} : ∀ {ks : List NestedKey} {us : List Value} {i : Nat} {k : NestedKey} {u : Value}, NestedAll h ks us → ks[i]? = some k → us[i]? = some u → NestedIs h k u
  | _, _, _, _, _, .nil, e, _ => by simp at e
  | _, _, 0, _, _, .cons r _, e1, e2 => by
    obtain rfl := Option.some.inj (by simpa using e1)
    obtain rfl := Option.some.inj (by simpa using e2)
    exact r
  | _, _, i + 1, k, u, .cons _ t, e1, e2 => nestedAll_get (i := i) t (by simpa using e1) (by simpa using e2)
theorem pe_lenSetN {a : Expr} {ta : TE} {p p2 q pos : Pos} (hc : X.calm = true) (hu : X.A.units + 30 < cLine) (hg : Gl X "len") (hm : X.mg "len" = none) (hg2 : Gl X "set") (hm2 : X.mg "set" = none) (ha : PE X a ta)
    (na : starEach [a] X.env = (false, eval a X.env) :: starEach [] X.env := by rfl) : PE X (.Call (.Name "len" p) [.Call (.Name "set" p2) [a] [] q] [] pos) (tLenSetN X.K ta) := by
  refine ⟨fun pins s σ H Q I h => ?_⟩
  refine Call_ (ld_blt I hg hm PySem.boot_len ?_)
  refine PyProof.Rows.callWith_builtin1 (PyProof.Rows.args_cons ?_ rfl) rfl rfl
  refine Call_ (ld_blt I hg2 hm2 PyProof.Rows.boot_set ?_)
  refine PyProof.Rows.callWith_type1 (PyProof.Rows.args_cons (thn (ha.run pins s σ H _ I h) fun v s1 ⟨x, H1, I1, r1, q1⟩ => PyProof.Rows.args_nil ?_) na) na rfl
  obtain ⟨l, xs, ds, n, rfl, hl, hd, ht, hn8, hnd, hlen, hq⟩ := q1
  cases r1
  obtain ⟨its, rv, hT, _⟩ := I1.tuple (SqT.of (K := X.K) hl)
  obtain ⟨as, hal, hae⟩ := refs_of hd rv
  have hall := nesteds_of I1 (Ex.refl H1) (ds.map .tuple) xs its (fun d hd => by
    obtain ⟨e, he, rfl⟩ := List.mem_map.mp hd
    exact ht e he) hd rv
  rw [kDs_map, List.map_map] at hall
  have hkl : (as.zip (ds.map (kD ∘ PyData.tuple))).length = ds.length := by rw [List.length_zip, List.length_map, hal]; exact Nat.min_self _
  have hsnd : (as.zip (ds.map (kD ∘ PyData.tuple))).map (·.2) = ds.map (kD ∘ PyData.tuple) := List.map_snd_zip (by rw [List.length_map, hal]; exact Nat.le_refl _)
  have hfst : (as.zip (ds.map (kD ∘ PyData.tuple))).map (fun p => Value.ref p.1) = its := by
    have e : (as.zip (ds.map (kD ∘ PyData.tuple))).map (·.1) = as := List.map_fst_zip (by rw [List.length_map, hal]; exact Nat.le_refl _)
    have e2 : (as.zip (ds.map (kD ∘ PyData.tuple))).map (fun p => Value.ref p.1) = ((as.zip (ds.map (kD ∘ PyData.tuple))).map (·.1)).map Value.ref := by rw [List.map_map]; rfl
    rw [e2, e, hae]
  refine call_setN (as.zip (ds.map (kD ∘ PyData.tuple))) (I1.ok.hd hc) hT (by rw [hfst]) (fun p hp => ?_) ?_ (by rw [hkl]; exact hlen) (by omega) fun h' tk L es ep t hS pm hk => ?_
  · obtain ⟨i, hi, e⟩ := List.getElem_of_mem hp
    have hi2 : i < ds.length := by rw [hkl] at hi; exact hi
    rw [List.getElem_zip] at e
    subst e
    have hia : i < as.length := by omega
    have k1 : (ds.map (kD ∘ PyData.tuple))[i]? = some ((ds.map (kD ∘ PyData.tuple))[i]'(by rw [List.length_map]; exact hi2)) := List.getElem?_eq_getElem _
    have k2 : its[i]? = some (Value.ref as[i]) := by rw [hae, List.getElem?_map, List.getElem?_eq_getElem hia]; rfl
    have key := nestedAll_get hall k1 k2
    refine ⟨key, ?_⟩
    rw [List.getElem_map]
    have := kD_ok n _ (ht ds[i] (List.getElem_mem hi2))
    exact ⟨Nat.le_trans this.1 hn8, this.2⟩
  · rw [hsnd, List.nodup_iff_pairwise_ne, List.pairwise_map]
    refine List.Pairwise.imp_of_mem (fun {x y} hx hy hne e => hne ?_) hnd
    have := kD_inj n _ _ (ht x hx) (ht y hy) e
    injection this
  · refine PyProof.Rows.args_nil ?_
    obtain ⟨o, ho, hex, hdd⟩ := hS.ob
    have hLl : L.length = ds.length := by rw [pm.length_eq, hkl]
    have hes : es.size = ds.length := by rw [rowsN_len hS.rows, hLl]
    have hf : t.fits es.size = true := SetN.fits (s := { s1 with heap := h', toks := tk }) hS
    have I2 : Inv X pins σ H1 { s1 with heap := h', toks := tk } := I1.kept fun b o e => hk b o e
    refine call_len_set ho hex hdd hf (by rw [hes]; omega) ⟨.int (ds.length : Nat), H1, I2.tok _, ⟨_, by rw [hes]⟩, hq⟩
variable {ρ : Sl} {μ : Mu} {Q : SV → Mu → Prop}
theorem de_lenSet {a : Expr} {p p2 q pos : Pos} (hm : X.mg "len" = none) (hm2 : X.mg "set" = none) (hu : X.A.units + 30 < cLine) (h : DE X a ρ μ fun x m => ∃ (ds : List (List PyData)) (n : Nat), x = .d (.tuple (ds.map .tuple)) ∧ (∀ d ∈ ds, Tn n (.tuple d)) ∧ n ≤ 8 ∧ ds.Nodup ∧ ds.length < 64 ∧ Q (.d (.int (ds.length : Nat))) m)
    (hc : X.calm = true := by rfl) (hg : Gl X "len" := by rfl) (hg2 : Gl X "set" := by rfl) (na : starEach [a] X.env = (false, eval a X.env) :: starEach [] X.env := by rfl) : DE X (.Call (.Name "len" p) [.Call (.Name "set" p2) [a] [] q] [] pos) ρ μ Q := fun σ H R Qc k =>
  cE_of (pe_lenSetN hc hu hg hm hg2 hm2 (pe_k a) na) (h σ H R _ fun x m v H1 ⟨ds, n, ex, ht, hn8, hnd, hlen, hq⟩ e1 m1 r1 => by
    subst ex
    cases r1 with
    | tup g1 g2 => exact ⟨_, _, ds, n, rfl, hid_le _ _ g1, DvAll.mono hid_le _ _ g2, ht, hn8, hnd, hlen, k _ m _ H1 hq e1 m1 (.int _)⟩)
end
end T12
end
section
set_option Elab.async false
set_option linter.all false
set_option maxRecDepth 100000
set_option maxHeartbeats 4000000
set_option exponentiation.threshold 5000
namespace T12
open PySem PySem.Spec PyProof.Rows L2
/-! ### statements towards a raw end -/
def DSsR (X : Cx) (sts : List Stmt) (ρ : Sl) (μ : Mu) (H0 : Hp) (μ0 : Mu) (D : Ends) : Prop := ∀ σ H, Rep X.K ρ μ σ H → Ex (hid H0 μ0) (hid H μ) → cSs X sts D σ H
theorem dsr_cons {X : Cx} {st : Stmt} {sts : List Stmt} {ρ : Sl} {μ : Mu} {H0 : Hp} {μ0 : Mu} {D : Ends} (h : DS X st ρ μ { nx := fun ρ' μ' => DSsR X sts ρ' μ' H0 μ0 D, rt := fun _ _ => False }) : DSsR X (st :: sts) ρ μ H0 μ0 D := fun σ H R e =>
  cSs_of (pss_cons (ps_k st) (pss_k sts)) (h σ H R _ ⟨fun ρ' μ' σ' H' q e1 R1 => q σ' H' R1 (e.trans e1), fun _ _ _ _ q => q.elim, fun _ _ _ _ q => q.elim, fun _ _ _ _ q => q.elim⟩)
/-! ### instances -/
theorem fdv_lookup {G : Hp} {f : Str} : ∀ {vs : List (Str × V)} {fs : List (Str × PyData)} {d : PyData}, FDv G vs fs → fs.lookup f = some d → ∃ v, vs.lookup f = some v ∧ Dv G v d
  | _, _, _, .nil, h => by cases h
  | (n, v) :: vs, (n', d') :: fs, d, .cons ⟨e, r⟩ t, h => by
    obtain rfl : n = n' := e
    by_cases hn : (f == n) = true
    · simp only [List.lookup, hn] at h ⊢
      cases h
      exact ⟨v, rfl, r⟩
    · have hn' : (f == n) = false := by simpa using hn
      simp only [List.lookup, hn'] at h ⊢
      exact fdv_lookup t h
section
variable {X : Cx} {ρ : Sl} {μ : Mu} {Q : SV → Mu → Prop} {e : Expr} {es : List Expr} {pos p : Pos} {C : Addr} {f : Str}
theorem de_fld (c : Cls X.K C) (n : NoAttr X.K C f) (h : DE X e ρ μ fun x m => ∃ fs d, x = .o C fs ∧ fs.lookup f = some d ∧ Q (.d d) m) (hb : attributeBase e f X.env (eval e X.env) = eval e X.env := by rfl) : DE X (.Attribute e f pos) ρ μ Q := fun σ H R Qc k =>
  cE_of (pe_fld (pe_k e) hb) (h σ H R _ fun x m v H1 ⟨fs, d, ex, hl, q⟩ e1 m1 r1 => by
    subst ex
    obtain ⟨a, dx, vs, rfl, ha, hf⟩ := r1
    obtain ⟨u, h1, h2⟩ := fdv_lookup hf hl
    exact ⟨a, C, dx, vs, u, rfl, hid_le _ _ ha, c, n, h1, k _ m u H1 q e1 m1 h2⟩)
/-- isinstance(e, C), C an own class -/
theorem de_isOwn {cn : Str} {p2 : Pos} (hm : X.mg "isinstance" = none) (hc : X.mg cn = some (.ref C)) (h : DE X e ρ μ fun x m => (∃ t b, tyN x = some t ∧ known m x ∧ PySem.W.kitOne X.K (.type t) (.ref C) = some b ∧ Q (.d (.bool b)) m) ∨ (∃ D fs b, x = .o D fs ∧ C8.InsC X.K D ∧ PySem.W.kitOne X.K (.ref D) (.ref C) = some b ∧ Q (.d (.bool b)) m)) (hg : Gl X "isinstance" := by rfl) (hgT : Gl X cn := by rfl)
    (hd : (cn == ("__debug__" : Str)) = false := by decide)
    (he : starEach (e :: [.Name cn p2]) X.env = (false, eval e X.env) :: starEach [.Name cn p2] X.env := by rfl) (he2 : starEach [.Name cn p2] X.env = (false, eval (.Name cn p2) X.env) :: starEach [] X.env := by rfl) (hpl : (backTo pos (starEach [.Name cn p2] X.env)).any (·.1) = false := by rfl) :
    DE X (.Call (.Name "isinstance" p) [e, .Name cn p2] [] pos) ρ μ Q := fun σ H R Qc k =>
  cE_of (pe_callB call_isi hg hm (by decide +kernel) (pa_cons (pe_k e) (pa_cons (C8.pe_gc (v := .ref C) hgT ⟨_, hc, rfl⟩ hd) pa_nil he2) he) (by decide) (by decide) he hpl)
    (h σ H R _ fun x m v H1 hh e1 m1 r1 => by
      rcases hh with ⟨t, b, ht, hk, hb, q⟩ | ⟨D, fs, b, ex, ci, hb, q⟩
      · exact ⟨v, .ref C, .type t, .ref C, b, rfl, .own C, rv_ty (ds := none) r1 ht (known_lst m1 hk), hb, k _ m _ H1 q e1 m1 (.bl _)⟩
      · subst ex
        obtain ⟨a, dx, vs, rfl, ha, hf⟩ := r1
        exact ⟨.ref a, .ref C, .ref D, .ref C, b, rfl, .own C, .base (.ins (hid_le _ _ ha) ci.cl ci.ha ci.hn ci.htk ci.hm), hb, k _ m _ H1 q e1 m1 (.bl _)⟩)
end
section
variable {P : Program} {w : World} {K : PySem.W.Frag} {mg : Str → Option Value} {base : Heap}
theorem iteP {A B : Prop} {b : Bool} (hb : b = true) (h : A) : if b = true then A else B := by rw [if_pos hb]; exact h
theorem iteN {A B : Prop} {b : Bool} (hb : b = false) (h : B) : if b = true then A else B := by rw [if_neg (by rw [hb]; exact Bool.false_ne_true)]; exact h
/-- this very object -/
def isR (p : Addr) : PrR := ⟨fun _ v => v = .ref p, fun _ _ _ _ h => h⟩
/-! are_unlike -/
abbrev sAreUnlike : Stmt := topS 46
theorem scAreUnlike : FnScope ["pieces"] ["pieces"] (C8.fnScope sAreUnlike) := ⟨rfl, rfl, rfl, by decide +kernel, rfl, by decide +kernel, by decide +kernel⟩
def spAreUnlike : DSp := fun xs μ Q => ∃ ps : List Pc, xs = [.d (.tuple (ps.map pieceD))] ∧ ps.Nodup ∧ ps.length < 64 ∧ Q (.d (.bool true)) μ
def pieceL (p : Pc) : List PyData := [cornD p.corner, .tuple (p.rows.map rowD), rowD p.shift]
theorem ok_are_unlike (T : Tp K mg "are_unlike" sAreUnlike ["pieces"] []) (B : Bl mg) : C8.Cal P w K mg base 1 "are_unlike" (spD K 1 spAreUnlike) [] := by
  refine d_ok (k := 0) T .nil scAreUnlike rfl fun f cdv A outer s H E hr xs μ Q hl ⟨ps, ex, hnd, hlen, hq⟩ => ?_
  subst ex
  have em : ps.map pieceD = (ps.map pieceL).map PyData.tuple := by rw [List.map_map]; rfl
  refine dss_cons (ds_ret (de_cmp (dc_eqI (de_lenSet B.len B.set (by have := hr.un; omega) (dv 0 ⟨ps.map pieceL, 4, congrArg (fun l => SV.d (.tuple l)) em, ?_, by decide, ?_, ?_, ?_⟩)))))
  · intro d hd
    obtain ⟨q, _, rfl⟩ := List.mem_map.mp hd
    exact tn_piece q
  · rw [List.nodup_iff_pairwise_ne, List.pairwise_map]
    exact List.Pairwise.imp (fun {x y} hne e => hne (pieceD_inj (congrArg PyData.tuple e))) hnd
  · rw [List.length_map]; exact hlen
  · refine de_len B.len (dv 0 ⟨_, rfl, _, _, rfl, rfl, ?_⟩)
    show Q (.d (.bool (decide (((ps.map pieceL).length : Int) = ((ps.map pieceD).length : Int))))) μ
    rw [List.length_map, List.length_map, decide_eq_true rfl]
    exact hq
/-! Machine -/
structure McT (K : PySem.W.Frag) (mg : Str → Option Value) (C : Addr) : Prop where
  cl : Cls K C
  nW : NoAttr K C "wide"
  nP : NoAttr K C "pieces"
  mgC : mg "Machine" = some (.ref C)
  ins : C8.InsC K C
def mcF (n : Nat) (ps : List Pc) : List (Str × PyData) := [("wide", .int (n : Nat)), ("pieces", .tuple (ps.map pieceD))]
/-- pieces of which a machine can be made -/
structure MOk (n : Nat) (ps : List Pc) : Prop where
  hn : 1 ≤ n ∧ n ≤ 2
  len : 1 ≤ ps.length ∧ ps.length ≤ 60
  wd : ∀ p ∈ ps, p.Wd n
  good : ∀ p ∈ ps, goodPc p = true
  nd : ps.Nodup
abbrev clsS (i j : Nat) : Stmt := (C8.clsBody (topS i)).getD j (.Pass ⟨0, 0, 0, 0⟩)
abbrev sMcInit : Stmt := clsS 47 0
abbrev nMcInit : List Str := ["self", "wide", "pieces", "kept", "each"]
theorem scMcInit : FnScope nMcInit ["self", "wide", "pieces"] (C8.fnScope sMcInit) := ⟨rfl, rfl, rfl, by decide +kernel, rfl, by decide +kernel, by decide +kernel⟩
/-- what Machine.__init__ promises: the fresh instance at p gets its two fields -/
def spMcI (K : PySem.W.Frag) (C : Addr) : Sp := fun vs H Q _ => ∃ (p dx : Addr) (v1 v2 : V) (μ : Mu) (n : Nat) (ps : List Pc), vs = [.ref p, v1, v2] ∧ MuOk μ H ∧ H p = some (.ins C dx []) ∧ Dv (hid H μ) v1 (.int (n : Nat)) ∧ Dv (hid H μ) v2 (piecesD ps) ∧ MOk n ps ∧
  ∀ (H1 : Hp) (w1 w2 : V), Ex (hid H μ) (hid H1 μ) → MuOk μ H1 → H1 p = some (.ins C dx []) → Dv (hid H1 μ) w1 (.int (n : Nat)) → Dv (hid H1 μ) w2 (.tuple (ps.map pieceD)) → Q .non (upd (upd H1 p (.ins C dx [("wide", w1)])) p (.ins C dx [("wide", w1), ("pieces", w2)]))
theorem wp_ : ¬ (("pieces" : Str) = "wide") := by decide +kernel
theorem all_map_true {α : Type} {l : List α} {h : α → Bool} (ht : ∀ a ∈ l, h a = true) : (l.map h).all id = true := by
  rw [List.all_eq_true]
  intro b hb
  obtain ⟨a, ha, rfl⟩ := List.mem_map.mp hb
  exact ht a ha
theorem mak_machine {C fI : Addr} {fd : FuncData} (M : Mk K C fI) (F : C8.Fun K "__init__" "Machine.__init__" sMcInit fI fd) (b : Binds K fd ["self", "wide", "pieces"] []) (T : McT K mg C) (B : Bl mg) (G : Gc mg) (c_is_within : C8.Cal P w K mg base 2 "is_within" (spD K 3 spIsWithin) []) (c_is_list : C8.Cal P w K mg base 1 "is_list" (spD K 1 spIsList) [])
    (c_is_piece : C8.Cal P w K mg base 6 "is_piece" (spD K 2 spIsPiece) []) (c_kept_piece : C8.Cal P w K mg base 4 "kept_piece" (spD K 1 spKeptPiece) []) (c_unlike : C8.Cal P w K mg base 1 "are_unlike" (spD K 1 spAreUnlike) []) : C8.Mak P w K mg base 7 "Machine" C (spMcI K C) [] := by
  refine C8.mak0 M T.mgC F b .nil scMcInit (fun vs H Q E ⟨p, dx, v1, v2, μ, n, ps, ev, _⟩ => by subst ev; rfl) fun cdv A outer s H vs Q E hr ⟨p, dx, v1, v2, μ, n, ps, ev, m, hp, r1, r2, ok, hq⟩ => ?_
  subst ev
  have hμp : μ p = none := by
    cases e : μ p with
    | none => rfl
    | some ds => obtain ⟨xs, h1, _⟩ := m p ds e; rw [hp] at h1; cases h1
  have rep : Rep K (startD nMcInit [.pr (isR p), .d (.int (n : Nat)), .d (piecesD ps)]) μ (L2.start nMcInit [.ref p, v1, v2]) H := rep_start m (.cons (show V.ref p = V.ref p from rfl) (.cons r1 (.cons r2 .nil)))
  obtain ⟨⟨hn1, hn2⟩, ⟨hl1, hl2⟩, hwd, hgood, hnd⟩ := ok
  refine ⟨cSs (BD P w K mg base nMcInit "Machine.__init__" sMcInit fI cdv A outer s H E) (C8.fnBody sMcInit), pss_k _, ?_⟩
  refine (show DSsR (BD P w K mg base nMcInit "Machine.__init__" sMcInit fI cdv A outer s H E) (C8.fnBody sMcInit) _ _ H μ _ from ?_) _ _ rep (Ex.refl _)
  have hr' : Room 6 (BD P w K mg base nMcInit "Machine.__init__" sMcInit fI cdv A outer s H E).A := hr
  refine dsr_cons (ds_if (dt_not (dt_val (de_call c_is_within hr' (by decide) (da_cons (dv 1 (da_cons (de_int (da_cons (dgc G.MOST_WIDE (da_nil ⟨rfl, n, some 1, some 2, rfl, _, rfl, ?_⟩)))))))))) )
  rw [show within (n : Nat) (some 1) (some 2) = true by unfold within; simp only [Bool.and_eq_true, decide_eq_true_eq]; omega]
  refine iteF (dss_nil ?_)
  refine dsr_cons (ds_if (dt_w (dw_or (dt_not (dt_val (de_call c_is_list hr' (by decide) (da_cons (dv 2 (da_nil ⟨rfl, ?_⟩)))))))))
  refine ⟨_, true, rfl, rfl, trivial, true, rfl, ?_⟩
  refine iteF (dw_or1 (dt_not (dt_chain (r := rI0 fun _ _ => .non) (r' := rI0 fun _ _ => .non) (C := fun _ _ => True) op_le op_le (de_int (de_len B.len (dv 2 ⟨_, rfl, _, _, rfl, rfl, ?_⟩))))))
  refine iteP (decide_eq_true (by rw [List.length_map]; omega)) (dgc G.MOST_PIECES ⟨_, rfl, ?_⟩)
  refine iteN (b := !decide _) (by rw [decide_eq_true (by rw [List.length_map]; omega)]; rfl) (dss_nil ?_)
  refine dsr_cons (ds_if (dt_not (dt_val (de_all B.all (lc1 4 scMcInit (di_list (dv 2 ⟨_, rfl, ?_, ?_⟩)))))))
  · rw [List.length_map]; omega
  refine dlc_map (e := pieceD) (g := fun p => .bool (goodPc p)) ps [] (fun q hq' => ⟨_, rfl, fun m s0 H0 C0 cl0 fp0 => ?_⟩) ?_
  · exact de_call c_is_piece hr' (by decide) (da_cons (dv 4 (da_cons (dv 1 (da_nil ⟨rfl, q, n, rfl, hwd q hq', by omega, rfl, rfl⟩)))))
  refine ⟨_, congrArg (fun l => SV.d (.list l)) (bools_map (h := goodPc)), _, rfl, ?_⟩
  rw [all_map_true hgood]
  refine iteF (dss_nil ?_)
  refine dsr_cons (ds_set (i := 3) scMcInit.nd (de_tuple B.tuple (lc1 4 scMcInit (di_list (dv 2 ⟨_, rfl, ?_, ?_⟩)))))
  · rw [List.length_map]; omega
  refine dlc_map (e := pieceD) (g := pieceD) ps [] (fun q hq' => ⟨_, rfl, fun m s0 H0 C0 cl0 fp0 => ?_⟩) ?_
  · exact de_call c_kept_piece hr' (by decide) (da_cons (dv 4 (da_nil ⟨rfl, q, n, rfl, hwd q hq', by omega, rfl, rfl⟩)))
  refine ⟨_, rfl, ?_⟩
  refine dsr_cons (ds_if (dt_not (dt_val (de_call c_unlike hr' (by decide) (da_cons (dv 3 (da_nil ⟨rfl, ps, rfl, hnd, by omega, true, rfl, ?_⟩)))))))
  refine iteF (dss_nil ?_)
  intro σ1 H1 R1 e1
  obtain ⟨u0, k0, (rfl : u0 = .ref p)⟩ := R1.sl 0 _ rfl
  obtain ⟨u1, k1, g1⟩ := R1.sl 1 _ rfl
  obtain ⟨u3, k3, g3⟩ := R1.sl 3 _ rfl
  have hH : H1 p = some (.ins C dx []) := hid_le _ _ (e1 _ _ (by rw [hid_of hμp]; exact hp))
  refine cSs_of (pss_cons (ps_fld (pv 0) (pv 1) rfl) (pss_one (ps_fld (pv 0) (pv 3) rfl))) ?_
  refine ⟨u1, k1, _, k0, p, C, _, _, rfl, hH, T.cl, T.nW, by decide, u3, k3, _, k0, p, C, _, _, rfl, upd_same, T.cl, T.nP, (by show 1 < 1000; decide), ?_⟩
  exact hq H1 u1 u3 e1 R1.mu hH g1 g3
end
end T12
end
section
set_option Elab.async false
set_option linter.all false
set_option maxRecDepth 100000
set_option maxHeartbeats 4000000
set_option exponentiation.threshold 5000
namespace T12
open PySem PySem.Spec PyProof.Rows L2
/-- an instance may be changed: data stay -/
def ExS (G G' : Hp) : Prop := ∀ a o, G a = some o → (∃ C dx fs, o = .ins C dx fs) ∨ G' a = some o
theorem ExS.rdl {G G' : Hp} (e : ExS G G') {a : Addr} {xs : List V} (h : Rd G a (.lst xs)) : Rd G' a (.lst xs) := by
  rcases h with h | ⟨o, h⟩
  · rcases e a _ h with ⟨_, _, _, z⟩ | z
    · cases z
    · exact .inl z
  · rcases e a _ h with ⟨_, _, _, z⟩ | z
    · cases z
    · exact .inr ⟨o, z⟩
mutual
theorem Dv.monoS {G G' : Hp} (e : ExS G G') : ∀ (d : PyData) (v : V), Dv G v d → Dv G' v d
  | .none, _, h => by cases h; exact .non
  | .bool b, _, h => by cases h; exact .bl b
  | .int i, _, h => by cases h; exact .int i
  | .str x, _, h => by cases h; exact .str x
  | .list ds, _, h => by
    cases h with
    | lst h1 h2 => exact .lst (e.rdl h1) (DvAll.monoS e ds _ h2)
  | .tuple ds, _, h => by
    cases h with
    | tup h1 h2 =>
      rcases e _ _ h1 with ⟨_, _, _, z⟩ | z
      · cases z
      · exact .tup z (DvAll.monoS e ds _ h2)
  | .dict _, _, h => by cases h
theorem DvAll.monoS {G G' : Hp} (e : ExS G G') : ∀ (ds : List PyData) (vs : List V), DvAll G vs ds → DvAll G' vs ds
  | [], _, h => by cases h; exact .nil
  | d :: ds, _, h => by
    cases h with
    | cons h1 h2 => exact .cons (Dv.monoS e d _ h1) (DvAll.monoS e ds _ h2)
end
theorem exS_upd {H : Hp} {μ : Mu} {p C dx : Addr} {fs : List (Str × V)} {o : HO} (h : H p = some (.ins C dx fs)) : ExS (hid H μ) (hid (upd H p o) μ) := fun a u e => by
  have hm := hid_mu e
  have e' := hid_le _ _ e
  by_cases ha : a = p
  · subst ha
    rw [h] at e'
    exact .inl ⟨_, _, _, (Option.some.inj e').symm⟩
  · right
    rw [hid_of hm, upd_ne ha]
    exact e'
theorem MuOk.updI {H : Hp} {μ : Mu} (m : MuOk μ H) {p C dx : Addr} {fs : List (Str × V)} {o : HO} (h : H p = some (.ins C dx fs)) : MuOk μ (upd H p o) := fun a ds e => by
  obtain ⟨xs, h1, h2⟩ := m a ds e
  have hne : a ≠ p := by
    rintro rfl
    rw [h] at h1; cases h1
  exact ⟨xs, by rw [upd_ne hne]; exact h1, DvAll.monoS (exS_upd h) _ _ h2⟩
theorem ex_over {H1 H2 : Hp} {μ : Mu} {p : Addr} {o : HO} (hp : H1 p = none) (e : Ex (hid H1 μ) (hid H2 μ)) : Ex (hid H1 μ) (hid (upd H2 p o) μ) := fun b u q => by
  have hb : b ≠ p := ne_of_none (hid_le _ _ q) hp
  have q2 := e b u q
  have hm := hid_mu q2
  rw [hid_of hm] at q2 ⊢
  rw [upd_ne hb]
  exact q2
theorem mu_ins {H : Hp} {μ : Mu} (m : MuOk μ H) {p C dx : Addr} {fs : List (Str × V)} (h : H p = some (.ins C dx fs)) : μ p = none := by
  cases e : μ p with
  | none => rfl
  | some ds => obtain ⟨xs, h1, _⟩ := m p ds e; rw [h] at h1; cases h1
section
variable {X : Cx} {ρ : Sl} {μ : Mu} {Q : SV → Mu → Prop} {e : Expr} {es : List Expr} {pos p : Pos} {C : Addr}
/-- Machine(n, ps) -/
theorem de_mkMachine {k j : Nat} (c : C8.Mak X.prog X.w X.K X.mg X.base k "Machine" C (spMcI X.K C) []) (hr : Room j X.A) (hk : k + 1 ≤ j) (h : DA X (e :: es) ρ μ fun xs m => ∃ n ps, xs = [.d (.int (n : Nat)), .d (piecesD ps)] ∧ MOk n ps ∧ Q (.o C (mcF n ps)) m) (hg : Gl X "Machine" := by rfl)
    (he : starEach (e :: es) X.env = (false, eval e X.env) :: starEach es X.env := by rfl) (hpl : (backTo pos (starEach es X.env)).any (·.1) = false := by rfl) :
    DE X (.Call (.Name "Machine" p) (e :: es) [] pos) ρ μ Q := fun σ H R Qc k =>
  cE_of (C8.pe_mk c hr hk hg (pa_k (e :: es)) (by decide) he hpl) (h σ H R _ fun xs m vs H1 ⟨n, ps, ex, ok, q⟩ e1 m1 r1 => by
    subst ex
    cases r1 with
    | cons g1 t =>
      cases t with
      | cons g2 t =>
        cases t
        intro x dx nx ndx ne
        have nx' : (upd H1 dx (.own x)) x = none := by rw [upd_ne (fun z => ne z.symm)]; exact nx
        have e2 : Ex (hid H1 m) (hid (upd (upd H1 dx (.own x)) x (.ins C dx [])) m) := (ex_new ndx).trans (ex_new nx')
        have m2 : MuOk m (upd (upd H1 dx (.own x)) x (.ins C dx [])) := (m1.new ndx).new nx'
        refine ⟨x, dx, _, _, m, n, ps, rfl, m2, upd_same, Dv.mono e2 _ _ g1, Dv.mono e2 _ _ g2, ok, fun H2 w1 w2 e3 m3 h3 d1 d2 => ⟨rfl, ?_⟩⟩
        have hx2 : (upd H2 x (.ins C dx [("wide", w1)])) x = some (.ins C dx [("wide", w1)]) := upd_same
        have m4 := (m3.updI (o := .ins C dx [("wide", w1)]) h3)
        have m5 := m4.updI (o := .ins C dx [("wide", w1), ("pieces", w2)]) hx2
        have s1 := exS_upd (μ := m) (o := .ins C dx [("wide", w1)]) h3
        have s2 := exS_upd (μ := m) (o := .ins C dx [("wide", w1), ("pieces", w2)]) hx2
        refine k _ m _ _ q (e1.trans (ex_over nx (ex_over nx (e2.trans e3)))) m5 ?_
        refine ⟨x, dx, [("wide", w1), ("pieces", w2)], rfl, ?_, .cons ⟨rfl, Dv.monoS s2 _ _ (Dv.monoS s1 _ _ d1)⟩ (.cons ⟨rfl, Dv.monoS s2 _ _ (Dv.monoS s1 _ _ d2)⟩ .nil)⟩
        rw [hid_of (mu_ins m3 h3), upd_same])

end
end T12
end
section
set_option Elab.async false
set_option linter.all false
set_option maxRecDepth 100000
set_option maxHeartbeats 4000000
set_option exponentiation.threshold 5000
namespace T12
open PySem PySem.Spec PyProof.Rows L2
/-- a method by its body -/
theorem d_fn {P : Program} {w : World} {K : PySem.W.Frag} {mg : Str → Option Value} {base : Heap} {x qual : Str} {st : Stmt} {f : Addr} {fd : FuncData} {N ps : List Str} {k n : Nat} {dsp : DSp} (F : C8.Fun K x qual st f fd) (S : FnScope N ps (C8.fnScope st)) (hn : ps.length = n)
    (h : ∀ (cdv : Value) (A : Around) (outer : List Env) (s : Shared) (H : Hp) (E : XK), Room k (BD P w K mg base N qual st f cdv A outer s H E).A → ∀ (xs : List SV) (μ : Mu) (Q : SV → Mu → Prop), xs.length = n → dsp xs μ Q →
      DSs (BD P w K mg base N qual st f cdv A outer s H E) (C8.fnBody st) (startD N xs) μ { nx := fun _ m => Q (.d .none) m, rt := Q }) : FnOk P w K mg base CX0 (k + 1) f fd ps (spD K n dsp) := by
  refine C8.fn0 F S (fun vs H Q E ⟨xs, μ, P', hl, _, r, _, _⟩ => by rw [← Paired.length r, hl, hn]) fun cdv A outer s H vs Q E hr hsp => ?_
  obtain ⟨xs, μ, P', hl, m, r, q, kk⟩ := hsp
  have body := h cdv A outer s H E hr xs μ P' hl q
  refine ⟨cSs (BD P w K mg base N qual st f cdv A outer s H E) (C8.fnBody st), pss_k _, ?_⟩
  refine body (L2.start N vs) H (rep_start m r) _ ⟨fun ρ' μ' σ' H' z e1 R1 => ?_, kk, fun _ _ _ _ z => z.elim, fun _ _ _ _ z => z.elim⟩
  exact kk _ μ' _ H' z e1 R1.mu .non
/-- a class with its own == and no own != -/
structure OwnEq (K : PySem.W.Frag) (C f : Addr) : Prop where
  ex : ∃ nm q N bs hdct sn sub ab col dd k0 k1 k2 k3 k5 newId, K.lookup C = some (excClassObj nm q C N bs [.type "object"] hdct sn sub ab col dd k0 k1 k2 k3 k5 newId) ∧ PySem.W.nsOkIn K N = true ∧ PySem.W.nsIn K N "__eq__" = some (some (.ref f)) ∧ PySem.W.nsIn K N "__ne__" = some none
  ty : PySem.W.typeIn K (.ref f) = some (.type "function")
theorem ns_some_of {K : PySem.W.Frag} {h : Heap} {N : Addr} {m : Str → Option Value} {n : Str} {v : Value} (X : K.In h) (G : h.Ns N m) (e : PySem.W.nsIn K N n = some (some v)) : m n = some v := by
  unfold PySem.W.nsIn at e
  split at e
  · rename_i c d es nn sl q
    obtain ⟨o, es', ep, ho, hd, _, hf⟩ := G
    have := X _ _ q
    rw [ho] at this
    cases this
    cases hd
    split at e
    · rename_i x hx
      cases e
      rw [← hf]
      unfold nsFind findBy
      rw [← Array.find?_toList, hx]
      rfl
    · split at e <;> cases e
  · cases e
theorem OwnEq.at {K : PySem.W.Frag} {C f a dx : Addr} {h : Heap} {o : Obj} (T : OwnEq K C f) (X : K.In h) (ho : h.get? a = some o) (hc : o.cls = .ref C) : h.OwnEqNoNe a C f "object" [.type "object"] := by
  obtain ⟨nm, q, N, bs, hdct, sn, sub, ab, col, dd, k0, k1, k2, k3, k5, newId, hC, hN, he, hn⟩ := T.ex
  have hns : h.Ns N (h.nsMap N) := .of_isNs (PySem.W.isNs_of_in X hN)
  have ty : (List.lookup f K).map (·.cls) = some (.type "function") := T.ty
  cases hf : List.lookup f K with
  | none => rw [hf] at ty; cases ty
  | some of =>
    rw [hf] at ty
    refine ⟨o, of, nm, q, N, bs, hdct, sn, sub, ab, col, dd, k0, k1, k2, k3, k5, newId, h.nsMap N, _, ho, hc, X _ _ hC, hns, ?_, X _ _ hf, ?_, PySem.F.cmp_object.mro, PySem.F.cmp_object.eq.lookup, PySem.W.ns_none_of X hns hn⟩
    · exact ns_some_of X hns he
    · exact Option.some.inj ty
section
variable {X : Cx}
/-- a != b by the own == -/
def rNe (C : Addr) (sp : Sp) : R2 := fun x y H Q => ∃ a b dx dy fs gs, x = .ref a ∧ y = .ref b ∧ H a = some (.ins C dx fs) ∧ H b = some (.ins C dy gs) ∧ sp [.ref a, .ref b] H (fun v H' => ∃ k, v = .bl k ∧ Q (.bl (!k)) H') C8.E0
theorem op_ne {C f : Addr} {fd : FuncData} {ps : List Str} {sp : Sp} {n j : Nat} (T : OwnEq X.K C f) (F : FnOk X.prog X.w X.K X.mg X.base CX0 n f fd ps sp) (hb : Binds X.K fd ps []) (hr : Room j X.A) (hj : n + 1 ≤ j) : OpR X (compareOp .NotEq) (rNe C sp) := by
  intro pins s σ H x y u v Q I rx ry d
  obtain ⟨a, b, dx, dy, fs, gs, rfl, rfl, ha, hb', hsp⟩ := d
  cases rx
  cases ry
  obtain ⟨mA, J, _⟩ := ins_get I.hok ha
  obtain ⟨mB, J', _⟩ := ins_get I.hok hb'
  obtain ⟨od, J, _⟩ := J.look
  obtain ⟨od', J', _⟩ := J'.look
  have hrA : Room n X.A.in1 := (hr.mono hj).in1
  refine PySem.compareOp_ne_ownEq PySem.F.cmp_object (T.at (dx := dx) I.kIn J.at_ J.cls) J'.at_ J'.cls (by have := hr.un; omega) ?_
  have e0 : Env0 X.prog X.w X.K X.mg X.base X.A.in1 X.stack s H := by
    have e := I.env0
    exact ⟨e.frames, e.mod, e.bs, e.bsz, e.funs, e.frf, e.hok, e.bare⟩
  have hl := F.len _ _ _ _ hsp
  have r2 : Vals [V.ref a, V.ref b] [Value.ref a, Value.ref b] := .cons rfl (.cons rfl .nil)
  refine wpAny_call (codeAny_mono (F.run X.A.in1 X.stack s H ⟨[.ref a, .ref b], []⟩ [.ref a, .ref b] [.ref a, .ref b] _ C8.E0 hrA e0 (by
    have := hb s [.ref a, .ref b] I.kIn (by simpa using hl)
    simpa using this) r2 hsp) fun r s' hq => ?_)
  cases r with
  | error e => exact (C8.pass0 (E := C8.E0)) pins σ H s e s' I hq
  | ok fl =>
    cases fl with
    | ret w =>
      obtain ⟨z, H', I', rz, k, ez, q⟩ := I.after hq
      subst ez
      cases rz
      exact ⟨k, rfl, .bl (!k), H', I', rfl, q⟩
    | next => exact False.elim hq
    | brk => exact False.elim hq
    | cont => exact False.elim hq
end
end T12
end
section
set_option Elab.async false
set_option linter.all false
set_option maxRecDepth 100000
set_option maxHeartbeats 4000000
set_option exponentiation.threshold 5000
namespace T12
open PySem PySem.Spec PyProof.Rows L2
section
variable {X : Cx} {ρ : Sl} {μ : Mu} {Q : SV → Mu → Prop} {a b : Expr} {pos p : Pos} {C : Addr}
theorem de_boolB (hm : X.mg "bool" = none) (h : DE X a ρ μ fun x m => ∃ k, x = .d (.bool k) ∧ Q (.d (.bool k)) m) (hg : Gl X "bool" := by rfl) (he : starEach [a] X.env = (false, eval a X.env) :: starEach [] X.env := by rfl) (hpl : (backTo pos (starEach [] X.env)).any (·.1) = false := by rfl) :
    DE X (.Call (.Name "bool" p) [a] [] pos) ρ μ Q :=
  de_callTy call_bool1 hm (by decide +kernel) (da_cons (h.imp fun x m ⟨i, e, q⟩ => da_nil fun H vs Qc m r k => by
    subst e
    cases r with
    | cons r1 r2 =>
      cases r2
      cases r1
      exact .inr ⟨i, rfl, k _ _ (.bl i) H q (Ex.refl _) m (.bl _)⟩) he) hg (by decide) (by decide) he hpl
/-- x != y of two instances, by the own == -/
theorem dc_neO {f : Addr} {fd : FuncData} {ps : List Str} {dsp : DSp} {n j : Nat} (T : OwnEq X.K C f) (F : FnOk X.prog X.w X.K X.mg X.base CX0 n f fd ps (spD X.K 2 dsp)) (hb : Binds X.K fd ps []) (hr : Room j X.A) (hj : n + 1 ≤ j)
    (h : DE X a ρ μ fun x μ1 => DE X b ρ μ1 fun y μ2 => ∃ fs gs, x = .o C fs ∧ y = .o C gs ∧ dsp [x, y] μ2 fun z m => ∃ k, z = .d (.bool k) ∧ Q (.d (.bool (!k))) m) : DC X .NotEq a b ρ μ Q :=
  dc_of (op_ne T F hb hr hj) (nomark _) (h.imp fun x _ z => z.imp fun y μ2 ⟨fs, gs, ex, ey, q⟩ H v u Qc m r1 r2 k => by
    have r1' := r1
    have r2' := r2
    rw [ex] at r1'
    rw [ey] at r2'
    obtain ⟨a, dx, vs, rfl, ha, _⟩ := r1'
    obtain ⟨b, dy, ws, rfl, hb, _⟩ := r2'
    exact ⟨a, b, dx, dy, vs, ws, rfl, rfl, hid_le _ _ ha, hid_le _ _ hb, [x, y], μ2, _, rfl, m, .cons r1 (.cons r2 .nil), q, fun z m' v H' ⟨c, ez, qz⟩ e' mm rz => by
      subst ez
      cases rz
      exact ⟨c, rfl, k _ m' _ H' qz e' mm (.bl _)⟩⟩)
end
section
variable {P : Program} {w : World} {K : PySem.W.Frag} {mg : Str → Option Value} {base : Heap}
abbrev sMcEq : Stmt := clsS 47 1
theorem scMcEq : FnScope ["self", "other"] ["self", "other"] (C8.fnScope sMcEq) := ⟨rfl, rfl, rfl, by decide +kernel, rfl, by decide +kernel, by decide +kernel⟩
def spMcEq (C : Addr) : DSp := fun xs μ Q => ∃ n ps, xs = [.o C (mcF n ps), .o C (mcF n ps)] ∧ Q (.d (.bool true)) μ
theorem eqv_self {n : Nat} {d : PyData} (h : Pn n d) : PyData.eqv d d = true := (eqv_iff n d d h h).mpr rfl
theorem pn_pieces (ps : List Pc) : Pn 5 (.tuple (ps.map pieceD)) := .tup fun d hd => by
  obtain ⟨z, _, rfl⟩ := List.mem_map.mp hd
  exact pn_piece z
theorem ok_mc_eq {C f : Addr} {fd : FuncData} (F : C8.Fun K "__eq__" "Machine.__eq__" sMcEq f fd) (T : McT K mg C) (B : Bl mg) : FnOk P w K mg base CX0 1 f fd ["self", "other"] (spD K 2 (spMcEq C)) := by
  refine d_fn (k := 0) F scMcEq rfl fun cdv A outer s H E hr xs μ Q hl ⟨n, ps, ex, hq⟩ => ?_
  subst ex
  refine dss_cons (ds_if (dt_not (dt_val (de_isOwn (C := C) B.isinstance T.mgC (dv 1 (.inr ⟨C, _, true, rfl, T.ins, T.ins.me, true, rfl, ?_⟩))))))
  refine iteF (dss_nil ?_)
  refine dss_cons (ds_ret (de_boolB B.bool (de_and (de_cmp (dc_eqI (de_fld T.cl T.nW (dv 0 ⟨_, _, rfl, rfl, de_fld T.cl T.nW (dv 1 ⟨_, _, rfl, rfl, _, _, rfl, rfl, _, rfl, ?_⟩)⟩)))))))
  refine iteP (decide_eq_true rfl) (de_one (de_cmp (dc_eqD hr (de_fld T.cl T.nP (dv 0 ⟨_, _, rfl, rfl, de_fld T.cl T.nP (dv 1 ⟨_, _, rfl, rfl, _, _, rfl, rfl, ?_, ?_, _, rfl, ?_⟩)⟩)))))
  · exact (pn_pieces ps).shaped (by decide)
  · exact (pn_pieces ps).shaped (by decide)
  · rw [eqv_self (pn_pieces ps)]
    exact hq
end
end T12
end
section
set_option Elab.async false
set_option linter.all false
set_option maxRecDepth 100000
set_option maxHeartbeats 4000000
set_option exponentiation.threshold 5000
namespace T12
open PySem PySem.Spec PyProof.Rows L2
section
variable {P : Program} {w : World} {K : PySem.W.Frag} {mg : Str → Option Value} {base : Heap}
abbrev sNeedMachine : Stmt := topS 53
theorem scNeedMachine : FnScope ["value", "part"] ["value", "part"] (C8.fnScope sNeedMachine) := ⟨rfl, rfl, rfl, by decide +kernel, rfl, by decide +kernel, by decide +kernel⟩
def spNeedMachine (C : Addr) : DSp := fun xs μ Q => ∃ n ps z, xs = [.o C (mcF n ps), z] ∧ Q (.d .none) μ
theorem ok_need_machine {C : Addr} {tk : Tok} (T : Tp K mg "need_machine" sNeedMachine ["value", "part"] [Value.str "machine" tk]) (M : McT K mg C) (B : Bl mg) : C8.Cal P w K mg base 1 "need_machine" (spD K 2 (spNeedMachine C)) [.str "machine"] := by
  refine d_ok (k := 0) T (.cons ⟨tk, rfl⟩ .nil) scNeedMachine rfl fun f cdv A outer s H E hr xs μ Q hl ⟨n, ps, z, ex, hq⟩ => ?_
  subst ex
  refine dss_cons (ds_if (dt_not (dt_val (de_isOwn (C := C) B.isinstance M.mgC (dv 0 (.inr ⟨C, _, true, rfl, M.ins, M.ins.me, true, rfl, ?_⟩))))))
  exact iteF (dss_nil (dss_nil hq))
abbrev sNeedWay : Stmt := topS 68
theorem scNeedWay : FnScope ["machine", "value", "part", "last", "each"] ["machine", "value", "part"] (C8.fnScope sNeedWay) := ⟨rfl, rfl, rfl, by decide +kernel, rfl, by decide +kernel, by decide +kernel⟩
def wayT (ns : List Nat) : PyData := .tuple (ns.map fun n => .int (n : Nat))
def spNeedWay (C : Addr) : DSp := fun xs μ Q => ∃ n ps ns z, xs = [.o C (mcF n ps), .d (wayD ns), z] ∧ 1 ≤ ns.length ∧ ns.length ≤ 100 ∧ (∀ i ∈ ns, i < ps.length) ∧ Q (.d (wayT ns)) μ
theorem ok_need_way {C : Addr} {tk : Tok} (T : Tp K mg "need_way" sNeedWay ["machine", "value", "part"] [Value.str "way" tk]) (M : McT K mg C) (B : Bl mg) (G : Gc mg) (c_is_list : C8.Cal P w K mg base 1 "is_list" (spD K 1 spIsList) []) (c_is_within : C8.Cal P w K mg base 2 "is_within" (spD K 3 spIsWithin) []) : C8.Cal P w K mg base 3 "need_way" (spD K 3 (spNeedWay C)) [.str "way"] := by
  refine d_ok (k := 2) T (.cons ⟨tk, rfl⟩ .nil) scNeedWay rfl fun f cdv A outer s H E hr xs μ Q hl ⟨n, ps, ns, z, ex, h1, h2, hn, hq⟩ => ?_
  subst ex
  refine dss_cons (ds_set (i := 3) scNeedWay.nd (de_sub (de_len B.len (de_fld M.cl M.nP (dv 0 ⟨_, _, rfl, rfl, _, rfl, de_int ⟨_, _, rfl, rfl, ?_⟩⟩)))))
  refine dss_cons (ds_if (dt_w (dw_or (dt_not (dt_val (de_call c_is_list hr (by decide) (da_cons (dv 1 (da_nil ⟨rfl, ?_⟩)))))))))
  refine ⟨_, true, rfl, rfl, trivial, true, rfl, ?_⟩
  refine iteF (dw_or (dt_not (dt_chain (r := rI0 fun _ _ => .non) (r' := rI0 fun _ _ => .non) (C := fun _ _ => True) op_le op_le (de_int (de_len B.len (dv 1 ⟨_, rfl, _, _, rfl, rfl, ?_⟩))))))
  refine iteP (decide_eq_true (by rw [List.length_map]; omega)) (dgc G.MOST_WAY ⟨_, rfl, ?_⟩)
  refine iteN (b := !decide _) (by rw [decide_eq_true (by rw [List.length_map]; omega)]; rfl) ?_
  refine dw_or1 (dt_not (dt_val (de_all B.all (lc1 4 scNeedWay (di_list (dv 1 ⟨_, rfl, ?_, ?_⟩))))))
  · rw [List.length_map]; omega
  refine dlc_map (e := fun i : Nat => .int (i : Nat)) (g := fun i : Nat => .bool (within (i : Nat) (some 0) (some (((ps.map pieceD).length : Nat) - 1)))) ns [] (fun i hi => ⟨_, rfl, fun m s0 H0 C0 cl0 fp0 => ?_⟩) ?_
  · exact de_call c_is_within hr (by decide) (da_cons (dv 4 (da_cons (de_int (da_cons (dv 3 (da_nil ⟨rfl, _, some 0, some _, rfl, rfl, rfl⟩)))))))
  refine ⟨_, congrArg (fun l => SV.d (.list l)) (bools_map (h := fun i : Nat => within (i : Nat) (some 0) (some (((ps.map pieceD).length : Nat) - 1)))), _, rfl, ?_⟩
  rw [all_map_true fun i hi => by have := hn i hi; unfold within; simp only [Bool.and_eq_true, decide_eq_true_eq]; rw [List.length_map]; omega]
  refine iteF (dss_nil ?_)
  exact dss_cons (ds_ret (de_tuple B.tuple (dv 1 ⟨_, rfl, hq⟩)))
abbrev sPointsOn : Stmt := topS 69
abbrev nPointsOn : List Str := ["machine", "point", "way", "found", "number", "piece"]
theorem scPointsOn : FnScope nPointsOn ["machine", "point", "way"] (C8.fnScope sPointsOn) := ⟨rfl, rfl, rfl, by decide +kernel, rfl, by decide +kernel, by decide +kernel⟩
def spPointsOn (C : Addr) : DSp := fun xs μ Q => ∃ (n : Nat) (ps : List Pc) (qs : List Rat) (ns : List Nat) (a : Nat), xs = [.o C (mcF n ps), .d (rowD qs), .d (wayT ns)] ∧ (∀ p ∈ ps, Pk p) ∧ Pw a qs ∧ a + 32 * ns.length ≤ 380 ∧ (∀ n ∈ ns, n < ps.length) ∧ Q (.d (.list ((runQ ps qs ns).map rowD))) μ
theorem ok_points_on {C : Addr} (T : Tp K mg "points_on" sPointsOn ["machine", "point", "way"] []) (M : McT K mg C) (B : Bl mg) (c_holds : C8.Cal P w K mg base 4 "held_in" (spD K 2 spHeldIn) []) (c_leads : C8.Cal P w K mg base 6 "led_in" (spD K 2 spLedIn) []) : C8.Cal P w K mg base 7 "points_on" (spD K 3 (spPointsOn C)) [] := by
  refine d_ok (k := 6) T .nil scPointsOn rfl fun f cdv A outer s H E hr xs μ Q hl ⟨nn, ps, qs, ns, a, ex, hps, hqs, ha, hns, hq⟩ => ?_
  subst ex
  refine dss_cons (ds_set (i := 3) scPointsOn.nd (de_lstM (da_cons (dv 1 (da_nil ⟨_, rfl, rfl, fun fa hfa => ?_⟩)))))
  refine dss_cons (ds_for .never (di_tup (dv 2 ⟨_, rfl, ?_⟩)))
  refine dfor_inv (e := fun n : Nat => .int (n : Nat)) (fun l ρ m => (∃ r1 r2, ρ = [some (.o C (mcF nn ps)), some (.d (rowD qs)), some (.d (wayT ns)), some (.m fa), r1, r2]) ∧ (∀ n ∈ l, n < ps.length) ∧
    ∃ (acc : List (List Rat)) (cur : List Rat) (b : Nat), m = put μ fa ((acc ++ [cur]).map rowD) ∧ acc.length + l.length ≤ 20 ∧ Pw b cur ∧ b + 32 * l.length ≤ 380 ∧ acc ++ runQ ps cur l = runQ ps qs ns) ?_ ?_ ns _ _ ⟨⟨none, none, rfl⟩, hns, [], qs, a, rfl, by simp only [List.length_nil]; omega, hqs, ha, rfl⟩
  · rintro n l ρ m ⟨⟨r1, r2, rfl⟩, hl', acc, cur, b, rfl, hlen, hcur, hb, he⟩
    have hn := hl' n List.mem_cons_self
    have hp : ps[n]? = some ps[n] := List.getElem?_eq_getElem hn
    generalize ps[n] = p at hp
    have hk := hps p (List.mem_of_getElem? hp)
    have hst : stepsQ ps cur (n :: l) = if heldQ p.corner cur = true then ledQ p.rows p.shift cur :: stepsQ ps (ledQ p.rows p.shift cur) l else [] := by
      rw [stepsQ, hp]
    rw [List.length_cons] at hlen hb
    obtain ⟨g1, g2, g3⟩ := holds_args hk hcur (by omega)
    refine dg_name (i := 4) scPointsOn.nd (dss_cons (ds_set (i := 5) scPointsOn.nd (de_ix (de_fld M.cl M.nP (dv 0 ⟨_, _, rfl, rfl, dv 4 ⟨ps.map pieceD, (n : Nat), pieceD p, rfl, rfl, atI_map' hp, ?_⟩⟩)))))
    refine dss_cons (ds_if (dt_not (dt_val (de_call c_holds hr (by decide) (da_cons (dv 5 ?_))))))
    refine da_cons (de_ix (dv 3 (de_neg (de_int ⟨_, rfl, _, _, rowD cur, items_m (a := fa) put_same, rfl, last_row, da_nil ⟨rfl, p, cur, rfl, g1, g2, g3, ?_⟩⟩))))
    by_cases hh : heldQ p.corner cur = true
    · rw [hh]
      refine ⟨_, rfl, iteF (dss_nil ?_)⟩
      obtain ⟨D, N, h0, h1, h2, hi⟩ := hk.ex
      obtain ⟨hcl, D2, N2, k0, k1, k2, hw⟩ := hcur
      refine dss_cons (ds_append (dv 3 ⟨_, rfl, _, put_same, de_call c_leads hr (by decide) (da_cons (dv 5 ?_))⟩))
      refine da_cons (de_ix (dv 3 (de_neg (de_int ⟨_, rfl, _, _, rowD cur, items_m (a := fa) put_same, rfl, last_row, da_nil ⟨rfl, p, cur, D, N, D2, N2, rfl, hi, hw, ⟨h0, le400 h1 (by decide)⟩, ⟨k0, le400 k1 (by omega)⟩, le400 h2 (by decide), le400 k2 (by omega), ?_⟩⟩))))
      refine ⟨_, _, rfl, put_same, by rw [List.length_map, List.length_append, List.length_singleton]; omega, dss_nil ?_⟩
      rw [put_put]
      refine ⟨⟨_, _, rfl⟩, fun x hx => hl' x (List.mem_cons_of_mem _ hx), acc ++ [cur], ledQ p.rows p.shift cur, b + 32, by simp only [List.map_append, List.map_cons, List.map_nil], by rw [List.length_append, List.length_singleton]; omega, led_pw hk ⟨hcl, D2, N2, k0, k1, k2, hw⟩, by omega, ?_⟩
      rw [← he]
      unfold runQ
      rw [hst, if_pos hh, List.append_assoc]; rfl
    · have hh' : heldQ p.corner cur = false := by simpa using hh
      rw [hh']
      refine ⟨_, rfl, iteT (dss_cons (ds_ret (de_freeze (dv 3 ⟨_, _, rfl, put_same, ?_⟩))))⟩
      rw [era_put hfa]
      unfold runQ at he
      rw [hst, if_neg hh] at he
      rw [he]
      exact hq
  · rintro ρ m ⟨⟨r1, r2, rfl⟩, _, acc, cur, b, rfl, _, _, _, he⟩
    refine dss_cons (ds_ret (de_freeze (dv 3 ⟨_, _, rfl, put_same, ?_⟩)))
    rw [era_put hfa]
    unfold runQ at he
    rw [show stepsQ ps cur [] = [] from rfl] at he
    rw [he]
    exact hq
end
end T12
end
section
set_option Elab.async false
set_option linter.all false
set_option maxRecDepth 100000
set_option maxHeartbeats 4000000
set_option exponentiation.threshold 5000
namespace T12
open NdefX ClX StX
open PySem PySem.Spec PyProof.Rows L2
/-! ### defs that capture their class: super().__init__(..) -/
/-- an __init__ at f, of the class at D, that says super() -/
structure SupAt (P : Program) (K : PySem.W.Frag) (mg : Str → Option Value) (st : Stmt) (qual : Str) (f D cda cc : Addr) : Prop where
  fn : ∃ (oc : Value) (od : Option Addr) (kV doc pm ct : Value) (an : Option Addr) (osl : Array (Option Value)),
    K.lookup f = some ⟨oc, od, .func (PySem.W.ksFn "__init__" qual (C8.fnArgs st) (C8.fnBody st) (C8.fnScope st) .none kV doc pm an (.ref cda) ct cc), osl⟩ ∧ PySem.W.codeIn K (.ref cda) qual = true
  cell : ∃ (cl : Value) (cld : Option Addr) (csl : Array (Option Value)), K.lookup cc = some ⟨cl, cld, .cell (some (.ref D)), csl⟩
  code : ∃ (ccl : Value) (cdd : Option Addr) (vs : Array Value) (ccs : Array (Option Value)) (file : Str) (tf : Tok), K.lookup cda = some ⟨ccl, cdd, .fields vs, ccs⟩ ∧ vs[2]? = some (.str file tf) ∧ ((P.main.file : Str) == file) = true
  clsD : ∃ cdD, PySem.W.clsIn K D = some cdD
  sup : mg "super" = none
  top : (P.main.scope.names.lookup ("super" : Str)).isSome = false
abbrev nfS (st : Stmt) (qual : Str) (cda cc : Addr) : NF := ⟨"__init__", qual, C8.fnArgs st, C8.fnBody st, C8.fnScope st, [("__class__", cc)], cda⟩
abbrev SX (P : Program) (w : World) (K : PySem.W.Frag) (mg : Str → Option Value) (base : Heap) (N : List Str) (st : Stmt) (qual : Str) (f cda cc : Addr) (A : Around) (outer : List Env) (s : Shared) (H : Hp) (E : XK) : Cx := ncx CX0 P w K mg base N (nfS st qual cda cc) f A outer s H E
theorem inst_keeps {h h' : Heap} {x C : Addr} {ox : Obj} {od : Option Obj} (J : PySem.W.InstAt h x ox C od) (k : ∀ b o, h.get? b = some o → h'.get? b = some o) : PySem.W.InstAt h' x ox C od := by
  obtain ⟨h1, h2, h3, h4⟩ := J
  refine ⟨k _ _ h1, h2, h3, ?_⟩
  cases e : ox.dict with
  | none =>
    rw [e] at h4
    cases od with
    | none => trivial
    | some o => exact h4.elim
  | some dx =>
    rw [e] at h4
    cases od with
    | none => exact h4.elim
    | some o => exact k _ _ h4
section
variable {P : Program} {w : World} {K : PySem.W.Frag} {mg : Str → Option Value} {base : Heap} {N ps : List Str} {st : Stmt} {qual : Str} {f D cda cc : Addr}
theorem cell_base (T : SupAt P K mg st qual f D cda cc) {h : Heap} (X : K.In h) : h.IsCell cc (some (.ref D)) := by
  obtain ⟨cl, cld, csl, h⟩ := T.cell
  exact ⟨_, X _ _ h, rfl⟩
/-- its promise, from a walk of its body that knows whose body it is -/
theorem fnr_cls {k : Nat} {sp : Sp} (T : SupAt P K mg st qual f D cda cc) (S : NScope N ps ["__class__"] (C8.fnScope st))
    (hb : ∀ (kV doc pm ct : Value) (an : Option Addr) (us : List Value), us.length = ps.length → bindArgs (PySem.W.ksFn "__init__" qual (C8.fnArgs st) (C8.fnBody st) (C8.fnScope st) .none kV doc pm an (.ref cda) ct cc) ⟨us, []⟩ = pure (ps.zip us))
    (len : ∀ vs H Q E, sp vs H Q E → vs.length = ps.length)
    (hbody : ∀ (A : Around) (outer : List Env) (s : Shared) (H : Hp) (vs : List V) (Q : VK) (E : XK) (s1 : Shared), Room k (SX P w K mg base N st qual f cda cc A outer s H E).A → sp vs H Q E → Inv (SX P w K mg base N st qual f cda cc A outer s H E) [] (startF N vs [some (.ref D)]) H s1 →
      _root_.PySem.wpAt (model P w) (SX P w K mg base N st qual f cda cc A outer s H E).A (.func (C8.fnBody st) (SX P w K mg base N st qual f cda cc A outer s H E).env) (execs (C8.fnBody st) (SX P w K mg base N st qual f cda cc A outer s H E).env) (SP (SX P w K mg base N st qual f cda cc A outer s H E) [] { nx := fun _ H' => Q .non H', rt := Q }) (SX P w K mg base N st qual f cda cc A outer s H E).xe s1) :
    FnR P w K mg base CX0 (k + 1) f sp := by
  intro A outer s H us vs Q E hr e0 r hsp
  obtain ⟨oc, od, kV, doc, pm, ct, an, osl, lk, hcd⟩ := T.fn
  have hl := len _ _ _ _ hsp
  have hul : us.length = ps.length := by rw [← r.length]; exact hl
  have KX : K.In s.heap := e0.mod.kin.keeps fun b o e => (e0.bs b o e).1
  have lim : s.heap.NoLimit := e0.mod.nolimit.keeps fun b o e => (e0.bs b o e).1
  have C : CellsAt (nfS st qual cda cc).cl ["__class__"] [some (.ref D)] s.heap H := by
    have one : ∀ y c, ([("__class__", cc)] : List (Str × Addr)).lookup y = some c → y = "__class__" ∧ c = cc := fun y c e => by
      have := PySem.mem_of_lookup e
      rw [List.mem_singleton] at this
      cases this; exact ⟨rfl, rfl⟩
    refine ⟨rfl, fun y c e => ?_, fun x y c e1 e2 => ?_, fun i y e => ?_⟩
    · obtain ⟨_, rfl⟩ := one y c e
      obtain ⟨cl, cld, csl, hk⟩ := T.cell
      exact ⟨(e0.bs _ _ (e0.mod.kin _ _ hk)).2, _, cell_base T KX⟩
    · rw [(one x c e1).1, (one y c e2).1]
    · cases i with
      | zero =>
        obtain rfl := Option.some.inj e
        refine ⟨cc, by simp [List.lookup], fun v e2 => ?_⟩
        obtain rfl := Option.some.inj (Option.some.inj e2)
        exact ⟨.ref D, rfl, cell_base T KX⟩
      | succ i => cases e
  refine codeAny_call_function hr.depth (KX _ _ lk) rfl S.co S.gen rfl (PySem.W.codeRec_of KX hcd) ?_
  rw [hb kV doc pm ct an us hul]
  refine wpAny_pure (wpAny_newFunctionEnv S.nocell (fun ⟨n, _⟩ hy => S.par n (List.of_mem_zip hy).1) (fun h₁ hns hsb => ⟨lim.fresh _ hsb, ?_⟩) S.kind)
  show codeAny _ _ (.func (C8.fnBody st) (envF (nfS st qual cda cc) f s.heap.objs.size)) _ _
  refine ks_codeAny_funcAt ?_
  have kp : ∀ b o, s.heap.get? b = some o → h₁.get? b = some o := fun b o e => hsb.extBut b o (Nat.ne_of_lt (Heap.lt_size e)) (Heap.get?_push_of_some _ e)
  have I : Inv (SX P w K mg base N st qual f cda cc A outer s H E) [] (startF N vs [some (.ref D)]) H { s with heap := h₁, toks := s.toks + (ps.zip us).length } := inv_startN S hr.hd e0 hl r C hns kp
  refine _root_.PySem.wpAt_mono (hbody A outer s H vs Q E _ (hr.deeper _) hsp I) (fun fl s' hs => ?_) fun e s' hs => hs
  have fin : ∀ {σ' : L2.St} {H' : Hp} {v : V} {u : Value}, Inv (SX P w K mg base N st qual f cda cc A outer s H E) [] σ' H' s' → L2.RelV v u → Q v H' → CE outer P w H s Q u s' :=
    fun {σ' H' v u} J rv q => ⟨v, H', J.os, J.bare, J.base, J.hok, rv, q⟩
  cases fl with
  | ret u =>
    obtain ⟨v, σ', H', J, rv, q⟩ := hs
    exact fin J rv q
  | next =>
    obtain ⟨σ', H', J, q⟩ := hs
    exact fin (v := V.non) (u := Value.none) J rfl q
  | brk =>
    obtain ⟨_, _, _, q⟩ := hs
    exact False.elim q
  | cont =>
    obtain ⟨_, _, _, q⟩ := hs
    exact False.elim q
/-- super() with a name behind it: the new super object, pinned -/
theorem sup_base {A : Around} {outer : List Env} {s0 : Shared} {H0 : Hp} {E : XK} {s : Shared} {σ : L2.St} {H : Hp} {pins : List (Addr × Obj)} {x C : Addr} {ox : Obj} {odx : Option Obj} {p0 p1 : Pos} {attr : Str} {whole : Sem Value} {ar : Arg} {ars : List Arg} {Q : Value → Shared → Prop}
    (T : SupAt P K mg st qual f D cda cc) (I : Inv (SX P w K mg base N st qual f cda cc A outer s0 H0 E) pins σ H s) (hpar : (C8.fnArgs st).posonlyargs ++ (C8.fnArgs st).args = ar :: ars) (hN : N[0]? = some ar.arg) (hσ : σ[0]? = some (some (.ref x)))
    (hk : (C8.fnScope st).kind = .function) (hks : (C8.fnScope st).names.lookup ("super" : Str) = some .globalImplicit) (hkc : (C8.fnScope st).names.lookup ("__class__" : Str) = some .free) (hka : (C8.fnScope st).names.lookup ar.arg = some .local)
    (J : PySem.W.InstAt s.heap x ox C odx) (hsub : PySem.W.mroIn K C (.ref D) = some true) (hat : (attr == ("__class__" : Str)) = false)
    (h : ∀ so s', Inv (SX P w K mg base N st qual f cda cc A outer s0 H0 E) ((so, PySem.W.ks_superObj D x C) :: pins) σ H s' → PySem.W.InstAt s'.heap x ox C odx → Q (.ref so) s') :
    _root_.PySem.wpAt (model P w) (SX P w K mg base N st qual f cda cc A outer s0 H0 E).A (.func (C8.fnBody st) (SX P w K mg base N st qual f cda cc A outer s0 H0 E).env) (attributeBase (.Call (.Name "super" p0) [] [] p1) attr (SX P w K mg base N st qual f cda cc A outer s0 H0 E).env whole) Q (SX P w K mg base N st qual f cda cc A outer s0 H0 E).xe s := by
  obtain ⟨oc, od, kV, doc, pm, ct, an, osl, lk, hcd⟩ := T.fn
  obtain ⟨ccl, cdd, vs, ccs, file, tf, hcode, hvs, hfile⟩ := T.code
  obtain ⟨cdD, hD⟩ := T.clsD
  have X : K.In s.heap := I.kIn
  obtain ⟨oD, hD1, hD2⟩ : ∃ oD, s.heap.get? D = some oD ∧ oD.data = .cls cdD := by
    unfold PySem.W.clsIn at hD
    split at hD
    · rename_i c d cd' sl ho
      cases hD
      exact ⟨_, X _ _ ho, rfl⟩
    · cases hD
  refine ks_wpAt_super_base (env := (SX P w K mg base N st qual f cda cc A outer s0 H0 E).env) hks hkc hat rfl (X _ _ lk) rfl (ar := ar) (by show (_ ++ _ : List Arg).head? = _; rw [hpar]; rfl) rfl (X _ _ hcode) rfl hvs hfile T.top ?_
  obtain ⟨mb, b1, b2⟩ := I.mod.blt
  refine PySem.W.ks_loadName_global hk hks (Calls.loadGlobal_builtin (by rw [I.ok.glob]; exact I.mod.glob.keeps I.bk) T.sup (by rw [I.ok.blt]; exact b1.keeps I.bk) ((b2 _ (by decide +kernel)).trans (by decide +kernel : bootBuiltins "super" = some (.type "super"))) ⟨rfl, ?_⟩)
  refine wpAny_loadName_free hk hkc (c := cc) (by simp [ncx, List.lookup]) (cell_base T X) ?_
  obtain ⟨m, hns, hloc⟩ := I.loc
  obtain ⟨u, ru, hlk⟩ := hloc 0 _ _ hN hσ (Or.inl hka)
  obtain rfl : u = Value.ref x := ru
  rcases hlk with ⟨_, hm⟩ | ⟨hk2, _⟩
  · refine wpAny_loadName_local hk hka hns hm ?_
    refine ks_wpAny_isType_cls (h := s.heap) (g := s.gens) (d := s.drawn) (t := s.toks) (os := s.os) hD1 hD2 ⟨rfl, ?_⟩
    refine ks_wpAny_call_super (h := s.heap) (g := s.gens) (d := s.drawn) (t := s.toks) (os := s.os) hD1 hD2 J.at_ J.cls (fun c e => ?_) (PySem.W.looks_mroIn X hsub) (fun h' e k => ?_)
    · have := J.no
      unfold PySem.W.notCls at this
      rw [e] at this
      exact Bool.noConfusion this
    · refine h s.heap.objs.size ⟨h', s.gens, s.drawn, s.toks, s.os⟩ (pin_new (t' := s.toks) I k (Nat.le_refl _) e (fun v z => nomatch z)) ?_
      exact inst_keeps J k
  · have hk2 : (C8.fnScope st).names.lookup ar.arg = some .cell ∨ (C8.fnScope st).names.lookup ar.arg = some .free := hk2
    rw [hka] at hk2
    rcases hk2 with z | z <;> cases z
/-- super().__init__(e, ..), the __init__ of an own class above -/
theorem sup_stmt {A : Around} {outer : List Env} {s0 : Shared} {H0 : Hp} {E : XK} {s : Shared} {σ : L2.St} {H : Hp} {pins : List (Addr × Obj)} {x C f2 : Addr} {ox : Obj} {odx : Option Obj} {p0 p1 p2 p3 p4 : Pos} {ar : Arg} {ars : List Arg} {e : Expr} {es : List Expr} {ta : TA} {sp2 : Sp} {Dn : Ends} {k : Nat} {pl : Sem Bool}
    (T : SupAt P K mg st qual f D cda cc) (I : Inv (SX P w K mg base N st qual f cda cc A outer s0 H0 E) pins σ H s) (hpar : (C8.fnArgs st).posonlyargs ++ (C8.fnArgs st).args = ar :: ars) (hN : N[0]? = some ar.arg) (hσ : σ[0]? = some (some (.ref x)))
    (hk : (C8.fnScope st).kind = .function) (hks : (C8.fnScope st).names.lookup ("super" : Str) = some .globalImplicit) (hkc : (C8.fnScope st).names.lookup ("__class__" : Str) = some .free) (hka : (C8.fnScope st).names.lookup ar.arg = some .local)
    (J : PySem.W.InstAt s.heap x ox C odx) (hsub : PySem.W.mroIn K C (.ref D) = some true) (ho : PySem.W.nsIn K cStatics "thirdparty.any" = some none)
    (hm : PySem.W.ks_superIn K C D "__init__" = some (some (.ref f2))) (ht : PySem.W.typeIn K (.ref f2) = some (.type "function")) (hf2 : PySem.W.fnIn K f2 = true) (F2 : FnR P w K mg base CX0 k f2 sp2)
    (hr : Room k (SX P w K mg base N st qual f cda cc A outer s0 H0 E).A) (ha : PA (SX P w K mg base N st qual f cda cc A outer s0 H0 E) (e :: es) ta)
    (h : ta σ H fun vs H1 => sp2 (.ref x :: vs) H1 (fun _ H2 => Dn.nx σ H2) C8.E0)
    (he : eval (.Call (.Attribute (.Call (.Name "super" p0) [] [] p1) "__init__" p2) (e :: es) [] p3) (SX P w K mg base N st qual f cda cc A outer s0 H0 E).env = (do
      let ov ← attributeBase (.Call (.Name "super" p0) [] [] p1) "__init__" (SX P w K mg base N st qual f cda cc A outer s0 H0 E).env (eval (.Call (.Name "super" p0) [] [] p1) (SX P w K mg base N st qual f cda cc A outer s0 H0 E).env)
      standAt p2.atName
      let (g, first) ← holding [ov] (getMethod ov "__init__" pl)
      callWith p3 g first (backTo p3 (starEach (e :: es) (SX P w K mg base N st qual f cda cc A outer s0 H0 E).env)) []) := by rfl)
    (hi : interactive (SX P w K mg base N st qual f cda cc A outer s0 H0 E).env = false := by rfl) (hsw : swapsWith (.Call (.Attribute (.Call (.Name "super" p0) [] [] p1) "__init__" p2) (e :: es) [] p3) none p4.line (SX P w K mg base N st qual f cda cc A outer s0 H0 E).env = pure false := by rfl)
    (hst : starEach (e :: es) (SX P w K mg base N st qual f cda cc A outer s0 H0 E).env = (false, eval e (SX P w K mg base N st qual f cda cc A outer s0 H0 E).env) :: starEach es (SX P w K mg base N st qual f cda cc A outer s0 H0 E).env := by rfl) (hpl : (backTo p3 (starEach es (SX P w K mg base N st qual f cda cc A outer s0 H0 E).env)).any (·.1) = false := by rfl) :
    _root_.PySem.wpAt (model P w) (SX P w K mg base N st qual f cda cc A outer s0 H0 E).A (.func (C8.fnBody st) (SX P w K mg base N st qual f cda cc A outer s0 H0 E).env)
      (exec (.Expr (.Call (.Attribute (.Call (.Name "super" p0) [] [] p1) "__init__" p2) (e :: es) [] p3) p4) (SX P w K mg base N st qual f cda cc A outer s0 H0 E).env) (SP (SX P w K mg base N st qual f cda cc A outer s0 H0 E) pins Dn) (SX P w K mg base N st qual f cda cc A outer s0 H0 E).xe s := by
  refine ks_wpAt_Expr_any ?_ hi hsw
  refine ks_wpAt_MethodCall (pl := pl) ?_ he
  refine sup_base T I hpar hN hσ hk hks hkc hka J hsub (by decide) fun so s1 I1 J1 => ?_
  cases hcls : PySem.W.clsIn K C with
  | none => unfold PySem.W.ks_superIn at hm; rw [hcls] at hm; cases hm
  | some cd =>
    unfold PySem.W.ks_superIn at hm
    rw [hcls] at hm
    have X1 : K.In s1.heap := I1.kIn
    have hty : (List.lookup f2 K).map (·.cls) = some (.type "function") := ht
    obtain ⟨of, hof, hofc⟩ : ∃ of, s1.heap.get? f2 = some of ∧ of.cls = .type "function" := by
      cases z : List.lookup f2 K with
      | none => rw [z] at hty; cases hty
      | some of => rw [z] at hty; exact ⟨of, X1 _ _ z, Option.some.inj hty⟩
    have hmro : PySem.W.Looks (model P w) s1.heap (mroOf (.ref C)) cd.mro := fun A Q E s k q => wpAny_bind ((PySem.W.looks_clsIn X1 hcls) A _ E s k (wpAny_pure q))
    refine ks_wpAny_getMethod_super (h := s1.heap) (g := s1.gens) (d := s1.drawn) (t := s1.toks) (os := s1.os) (pin_at I1) (PySem.W.looks_opaque X1 ho) (l₀ := cd.mro) hmro rfl X1 hm hof hofc (PySem.W.ks_ne X1 J1 hcls) (by decide) ?_
    have I2 := pin_new (t' := s1.toks + 1) (o := PySem.W.methodObj (.ref f2) (.ref x)) (unpin I1) (h' := s1.heap.push (PySem.W.methodObj (.ref f2) (.ref x))) (fun b u e => Heap.get?_push_of_some _ e) (Nat.le_refl _) (Heap.get?_push_size _ rfl) (fun v z => nomatch z)
    have hL : s1.heap.objs.size ≠ (SX P w K mg base N st qual f cda cc A outer s0 H0 E).env.locals := (I2.pin (s1.heap.objs.size, PySem.W.methodObj (.ref f2) (.ref x)) (List.mem_append_right _ List.mem_cons_self)).2.2.1
    refine PySem.W.callWith_M (K := K) (h₀ := base) (first := []) I2.ok.mod.kin (news_at hL (base_none I1 (Nat.le_refl _)) (pin_at I2)) List.mem_cons_self hf2 ?_ hst hpl
    refine thn (ha.run p3 _ _ σ H _ I2 h) fun us s3 ⟨vs, H2, I3, rv, q2⟩ => ⟨⟨pin_at I3, I3.kIn⟩, ?_⟩
    have z : wpAny (model P w) (SX P w K mg base N st qual f cda cc A outer s0 H0 E).A (call (.ref s1.heap.objs.size) us) (EP (SX P w K mg base N st qual f cda cc A outer s0 H0 E) _ σ (fun _ H2 => Dn.nx σ H2)) (SX P w K mg base N st qual f cda cc A outer s0 H0 E).xe s3 :=
      wpAny_call (PySem.W.method_call (pin_at I3) (run_fnR (us := .ref x :: us) (vs := .ref x :: vs) F2 hr C8.pass0 I3 (.cons rfl rv) q2))
    exact thn z fun _ _ y => let ⟨v, H', I, r, q⟩ := y; ⟨σ, H', unpin I, q⟩
end
end T12
end
section
set_option Elab.async false
set_option linter.all false
set_option maxRecDepth 100000
set_option maxHeartbeats 4000000
set_option exponentiation.threshold 5000
namespace T12
open PySem PySem.Spec PyProof.Rows L2
/-! fixed -/
inductive Fx : Nat → PyData → Prop
  | int (n : Nat) (i : Int) : Fx n (.int i)
  | tup {n : Nat} {ds : List PyData} : ds.length ≤ 900 → (∀ d ∈ ds, Fx n d) → Fx (n + 1) (.tuple ds)
  | lst {n : Nat} {ds : List PyData} : ds.length ≤ 900 → (∀ d ∈ ds, Fx n d) → Fx (n + 1) (.list ds)
mutual
def fixD : PyData → PyData
  | .list ds => .tuple (fixDs ds)
  | .tuple ds => .tuple (fixDs ds)
  | d => d
def fixDs : List PyData → List PyData
  | [] => []
  | d :: ds => fixD d :: fixDs ds
end
theorem fixDs_map : ∀ ds : List PyData, fixDs ds = ds.map fixD
  | [] => by simp [fixDs]
  | d :: ds => by rw [fixDs, fixDs_map ds]; rfl
section
variable {P : Program} {w : World} {K : PySem.W.Frag} {mg : Str → Option Value} {base : Heap}
abbrev sFixed : Stmt := topS 61
theorem scFixed : FnScope ["value", "each"] ["value"] (C8.fnScope sFixed) := ⟨rfl, rfl, rfl, by decide +kernel, rfl, by decide +kernel, by decide +kernel⟩
def spFixed (n : Nat) : DSp := fun xs μ Q => ∃ d, xs = [.d d] ∧ Fx n d ∧ Q (.d (fixD d)) μ
theorem ok_fixed (T : Tp K mg "fixed" sFixed ["value"] []) (B : Bl mg) : ∀ n, C8.Cal P w K mg base (n + 1) "fixed" (spD K 1 (spFixed n)) []
  | 0 => by
    refine d_ok (k := 0) T .nil scFixed rfl fun f cdv A outer s H E hr xs μ Q hl ⟨d, ex, hd, hq⟩ => ?_
    subst ex
    cases hd with
    | int _ i =>
      obtain ⟨t, h1, h2⟩ := tyLst (x := .d (.int i)) (b := false) rfl
      exact dss_cons (ds_ret (de_if (dt_val (de_isLT B.isinstance B.list B.tuple (dv 0 ⟨t, false, h1, trivial, h2, false, rfl, iteF (dv 0 (by simpa [fixD] using hq))⟩)))))
  | n + 1 => by
    have ih := ok_fixed T B n
    refine d_ok (k := n + 1) T .nil scFixed rfl fun f cdv A outer s H E hr xs μ Q hl ⟨d, ex, hd, hq⟩ => ?_
    subst ex
    cases hd with
    | int _ i =>
      obtain ⟨t, h1, h2⟩ := tyLst (x := .d (.int i)) (b := false) rfl
      exact dss_cons (ds_ret (de_if (dt_val (de_isLT B.isinstance B.list B.tuple (dv 0 ⟨t, false, h1, trivial, h2, false, rfl, iteF (dv 0 (by simpa [fixD] using hq))⟩)))))
    | @tup _ ds hlen hall =>
      obtain ⟨t, h1, h2⟩ := tyLst (x := .d (.tuple ds)) (b := true) rfl
      refine dss_cons (ds_ret (de_if (dt_val (de_isLT B.isinstance B.list B.tuple (dv 0 ⟨t, true, h1, trivial, h2, true, rfl, iteT ?_⟩)))))
      refine de_tuple B.tuple (lc1 1 scFixed (di_tup (dv 0 ⟨ds.map id, by rw [List.map_id], by rw [List.map_id]; omega, ?_⟩)))
      refine dlc_map (e := id) (g := fixD) ds [] (fun z hz => ⟨_, rfl, fun m s0 H0 C0 cl0 fp0 => de_call ih hr (Nat.le_refl _) (da_cons (dv 1 (da_nil ⟨rfl, z, rfl, hall z hz, rfl, rfl⟩)))⟩) ⟨_, rfl, ?_⟩
      simp only [fixD, fixDs_map] at hq
      exact hq
    | @lst _ ds hlen hall =>
      obtain ⟨t, h1, h2⟩ := tyLst (x := .d (.list ds)) (b := true) rfl
      refine dss_cons (ds_ret (de_if (dt_val (de_isLT B.isinstance B.list B.tuple (dv 0 ⟨t, true, h1, trivial, h2, true, rfl, iteT ?_⟩)))))
      refine de_tuple B.tuple (lc1 1 scFixed (di_list (dv 0 ⟨ds.map id, by rw [List.map_id], by rw [List.map_id]; omega, ?_⟩)))
      refine dlc_map (e := id) (g := fixD) ds [] (fun z hz => ⟨_, rfl, fun m s0 H0 C0 cl0 fp0 => de_call ih hr (Nat.le_refl _) (da_cons (dv 1 (da_nil ⟨rfl, z, rfl, hall z hz, rfl, rfl⟩)))⟩) ⟨_, rfl, ?_⟩
      simp only [fixD, fixDs_map] at hq
      exact hq
theorem fx_num (q : Rat) : Fx 1 (numD q) := by
  unfold numD
  split
  · exact .int _ _
  · refine .tup (Nat.le_of_ble_eq_true rfl) fun d hd => ?_
    rcases List.mem_cons.mp hd with rfl | hd
    · exact .int _ _
    · rw [List.mem_singleton] at hd; subst hd; exact .int _ _
theorem fx_row {qs : List Rat} (h : qs.length ≤ 900) : Fx 2 (rowD qs) := .tup (by rw [List.length_map]; exact h) fun d hd => by
  obtain ⟨q, _, rfl⟩ := List.mem_map.mp hd
  exact fx_num q
theorem fix_num (q : Rat) : fixD (numD q) = numD q := by
  unfold numD
  split <;> simp [fixD, fixDs]
theorem fix_row (qs : List Rat) : fixD (rowD qs) = rowD qs := by
  simp only [rowD, fixD, fixDs_map, List.map_map]
  congr 1
  exact List.map_congr_left fun q _ => fix_num q
end
end T12
end
section
set_option Elab.async false
set_option linter.all false
set_option maxRecDepth 100000
set_option maxHeartbeats 4000000
set_option exponentiation.threshold 5000
namespace T12
open NdefX ClX StX
open PySem PySem.Spec PyProof.Rows L2
/-- o.f as a target -/
def gFld (K : PySem.W.Frag) (to : TE) (f : Str) : TG := fun v σ H Q => to σ H fun x H2 => ∃ a C dx fs, x = .ref a ∧ H2 a = some (.ins C dx fs) ∧ Cls K C ∧ NoAttr K C f ∧ fs.length < 1000 ∧ Q σ (upd H2 a (.ins C dx (putF f v fs)))
theorem pg_fld {X : Cx} {o : Expr} {f : Str} {pos : Pos} {to : TE} (ho : PE X o to) : PG X (.Attribute o f pos) (gFld X.K to f) := by
  refine ⟨fun pins s σ H v u Q I r h => ?_⟩
  rw [assign_Attribute]
  refine wpAny_bind (wpAny_holding (thn (ho.run pins s σ H _ I h) fun ov s2 ⟨x, H2, I2, rx, a, C, dx, fs, ex, ea, c, n, l, q⟩ => ?_))
  subst ex
  obtain rfl : ov = Value.ref a := rx
  refine wpAny_bind (wpAny_standAt (wpAny_bind (wpAny_holding (setattr_ok I2 ea c n l r fun s3 I3 => wpAny_release ⟨σ, _, I3, q⟩))))
/-- but for what stands at p -/
def ExB (p : Addr) (G G' : Hp) : Prop := ∀ b u, b ≠ p → G b = some u → G' b = some u
theorem ExB.of {p : Addr} {G G' : Hp} (e : Ex G G') : ExB p G G' := fun b u _ h => e b u h
theorem ExB.trans {p : Addr} {G G' G2 : Hp} (a : ExB p G G') (b : ExB p G' G2) : ExB p G G2 := fun c u hc h => b c u hc (a c u hc h)
theorem ExB.upd {p : Addr} {H : Hp} {μ : Mu} {o : HO} (hp : μ p = none) : ExB p (hid H μ) (hid (L2.upd H p o) μ) := fun b u hb h => by
  have hm := hid_mu h
  rw [hid_of hm] at h ⊢
  rw [upd_ne hb]; exact h
theorem ExB.ex {p : Addr} {G G' : Hp} (e : ExB p G G') (hp : G p = none) : Ex G G' := fun b u h => e b u (ne_of_none h hp) h
/-- the classes of the papers -/
structure PapT (K : PySem.W.Frag) (C : Addr) : Prop where
  cl : Cls K C
  nW : NoAttr K C "word"
  nP : NoAttr K C "parts"
section
variable {P : Program} {w : World} {K : PySem.W.Frag} {mg : Str → Option Value} {base : Heap}
abbrev sPaperInit : Stmt := clsS 62 0
theorem scPaperInit : FnScope ["self", "word", "parts"] ["self", "word", "parts"] (C8.fnScope sPaperInit) := ⟨rfl, rfl, rfl, by decide +kernel, rfl, by decide +kernel, by decide +kernel⟩
/-- Paper.__init__, behind the binding -/
def spPaper (K : PySem.W.Frag) : Sp := fun vs H Q _ => ∃ (p t C dx : Addr) (wv : V) (word : Str) (ds : List PyData) (μ : Mu), vs = [.ref p, wv, .ref t] ∧ PapT K C ∧ MuOk μ H ∧ H p = some (.ins C dx []) ∧ Dv (hid H μ) wv (.str word) ∧ Dv (hid H μ) (.ref t) (.tuple ds) ∧ Fx 4 (.tuple ds) ∧
  ∀ (Hf : Hp) (v2 : V), ExB p (hid H μ) (hid Hf μ) → MuOk μ Hf → Hf p = some (.ins C dx [("word", wv), ("parts", v2)]) → Dv (hid Hf μ) v2 (fixD (.tuple ds)) → Q .non Hf
theorem wp2 : ¬ (("parts" : Str) = "word") := by decide +kernel
theorem fnr_paper {fP : Addr} {fd : FuncData} (F : C8.Fun K "__init__" "Paper.__init__" sPaperInit fP fd)
    (hd : fd.defaults = .none) (hbnd : ∀ (kV doc pm : Value) (an : Option Addr) (cdv ct : Value) (us rest : List Value), us.length = ["self", "word"].length → bindArgs (PySem.W.fnOf "__init__" "Paper.__init__" (C8.fnArgs sPaperInit) (C8.fnBody sPaperInit) (C8.fnScope sPaperInit) .none kV doc pm an cdv ct) ⟨us ++ rest, []⟩ = (newTuple rest >>= fun t => pure ((["self", "word"] : List Str).zip us ++ [(("parts" : Str), t)])))
    (c_fixed : C8.Cal P w K mg base 5 "fixed" (spD K 1 (spFixed 4)) []) :
    FnR P w K mg base CX0 6 fP (fun vs H Q E => ∃ ws rest, vs = ws ++ rest ∧ ws.length = (["self", "word"] : List Str).length ∧ rest.length ≤ sizeLine ∧ ∀ p, H p = Option.none → spPaper K (ws ++ [V.ref p]) (upd H p (.tup rest)) Q E) := by
  obtain ⟨oc, od, dV, kV, doc, pm, an, cdv, ct, osl, rfl, lk, hcd⟩ := F.ex
  have edV : dV = .none := hd
  subst edV
  refine fn_star lk hcd scPaperInit cxUp_none (fun us rest hl => hbnd kV doc pm an cdv ct us rest hl) fun A outer s H vs Q E hr hsp => ?_
  obtain ⟨p, t, C, dx, wv, word, ds, μ, ev, T, m, hp, r1, r2, hfx, hq⟩ := hsp
  subst ev
  have hμp := mu_ins m hp
  have hr' : Room 5 (BD P w K mg base ["self", "word", "parts"] "Paper.__init__" sPaperInit fP cdv A outer s H E).A := hr
  refine ⟨_, (pss_cons (X := BD P w K mg base ["self", "word", "parts"] "Paper.__init__" sPaperInit fP cdv A outer s H E) (ps_fld (pv 0) (pv 1) rfl) (pss_one (ps_fld (pv 0) (pe_k _) rfl))).nox, ?_⟩
  refine ⟨wv, rfl, .ref p, rfl, p, C, dx, [], rfl, hp, T.cl, T.nW, by decide, ?_⟩
  have m1 := m.updI (o := .ins C dx [("word", wv)]) hp
  have s1 := exS_upd (μ := μ) (o := .ins C dx [("word", wv)]) hp
  have rep : Rep K (startD ["self", "word", "parts"] [.pr (isR p), .d (.str word), .d (.tuple ds)]) μ (L2.start ["self", "word", "parts"] [.ref p, wv, .ref t]) (upd H p (.ins C dx [("word", wv)])) :=
    rep_start m1 (.cons (show V.ref p = V.ref p from rfl) (.cons (Dv.monoS s1 _ _ r1) (.cons (Dv.monoS s1 _ _ r2) .nil)))
  refine (de_call c_fixed hr' (Nat.le_refl _) (da_cons (dv 2 (da_nil ⟨rfl, .tuple ds, rfl, hfx, rfl, rfl⟩))) : DE (BD P w K mg base ["self", "word", "parts"] "Paper.__init__" sPaperInit fP cdv A outer s H E) _ _ μ fun x m' => m' = μ ∧ x = .d (fixD (.tuple ds))) _ _ rep _ ?_
  rintro x m' v2 H2 ⟨rfl, rfl⟩ e2 m2 r
  have hH2 : H2 p = some (.ins C dx [("word", wv)]) := hid_le _ _ (e2 _ _ (by rw [hid_of hμp, upd_same]))
  refine ⟨.ref p, rfl, p, C, dx, _, rfl, hH2, T.cl, T.nP, (by show 1 < 1000; decide), ?_⟩
  refine hq _ v2 ?_ (m2.updI hH2) upd_same (Dv.monoS (exS_upd hH2) _ _ r)
  exact ((ExB.upd hμp).trans (ExB.of e2)).trans (ExB.upd hμp)
end
end T12
end
section
set_option Elab.async false
set_option linter.all false
set_option maxRecDepth 100000
set_option maxHeartbeats 4000000
set_option exponentiation.threshold 5000
namespace T12
open NdefX ClX StX
open PySem PySem.Spec PyProof.Rows L2
theorem Fx.up {n m : Nat} {d : PyData} (h : Fx n d) (hm : n ≤ m) : Fx m d := by
  induction h generalizing m with
  | int n i => exact .int m i
  | tup h0 h ih =>
    cases m with
    | zero => omega
    | succ m => exact .tup h0 fun d hd => ih d hd (by omega)
  | lst h0 h ih =>
    cases m with
    | zero => omega
    | succ m => exact .lst h0 fun d hd => ih d hd (by omega)
/-- a paper class over Paper: how super().__init__ finds Paper's -/
structure SubT (K : PySem.W.Frag) (C fP : Addr) : Prop where
  pap : PapT K C
  sub : PySem.W.mroIn K C (.ref C) = some true
  find : PySem.W.ks_superIn K C C "__init__" = some (some (.ref fP))
  any : PySem.W.nsIn K cStatics "thirdparty.any" = some none
  ty : PySem.W.typeIn K (.ref fP) = some (.type "function")
  fn : PySem.W.fnIn K fP = true
abbrev spPapR (K : PySem.W.Frag) : Sp := fun vs H Q E => ∃ ws rest, vs = ws ++ rest ∧ ws.length = (["self", "word"] : List Str).length ∧ rest.length ≤ sizeLine ∧ ∀ p, H p = Option.none → spPaper K (ws ++ [V.ref p]) (upd H p (.tup rest)) Q E
section
variable {P : Program} {w : World} {K : PySem.W.Frag} {mg : Str → Option Value} {base : Heap}
theorem ins_inst {X : Cx} {pins : List (Addr × Obj)} {σ : L2.St} {H : Hp} {s : Shared} {a C dx : Addr} {fs : List (Str × V)} (I : Inv X pins σ H s) (h : H a = some (.ins C dx fs)) : ∃ ox od, PySem.W.InstAt s.heap a ox C (some od) := by
  obtain ⟨mA, J, _⟩ := ins_get I.hok h
  obtain ⟨od, J, _⟩ := J.look
  exact ⟨_, od, J⟩
abbrev sGoesInit : Stmt := clsS 66 0
abbrev nGoes : List Str := ["self", "points", "__class__"]
theorem scGoes : NScope nGoes ["self", "points"] ["__class__"] (C8.fnScope sGoesInit) := nscope_by (by decide +kernel)
def goesF (pts : List (List Rat)) : List (Str × PyData) := [("word", .str "goes"), ("parts", .tuple [.tuple (pts.map rowD)]), ("points", .tuple (pts.map rowD))]
def spGoesI (K : PySem.W.Frag) (C : Addr) : Sp := fun vs H Q _ => ∃ (p dx : Addr) (v : V) (pts : List (List Rat)) (μ : Mu), vs = [.ref p, v] ∧ MuOk μ H ∧ H p = some (.ins C dx []) ∧ Dv (hid H μ) v (.list (pts.map rowD)) ∧ pts.length ≤ 900 ∧ (∀ q ∈ pts, q.length ≤ 900) ∧
  ∀ (Hf : Hp) (fs : List (Str × V)), ExB p (hid H μ) (hid Hf μ) → MuOk μ Hf → Hf p = some (.ins C dx fs) → FDv (hid Hf μ) fs (goesF pts) → Q .non Hf
theorem fix_rows (pts : List (List Rat)) : fixDs (pts.map rowD) = pts.map rowD := by
  rw [fixDs_map, List.map_map]
  exact List.map_congr_left fun q _ => fix_row q
theorem fx_pts {pts : List (List Rat)} (h1 : pts.length ≤ 900) (h2 : ∀ q ∈ pts, q.length ≤ 900) : Fx 3 (.list (pts.map rowD)) := .lst (by rw [List.length_map]; exact h1) fun d hd => by
  obtain ⟨q, hq, rfl⟩ := List.mem_map.mp hd
  exact fx_row (h2 q hq)
theorem fnr_goes {f C fP cda cc : Addr} (T : SupAt P K mg sGoesInit "Goes.__init__" f C cda cc) (S : SubT K C fP) (nPts : NoAttr K C "points")
    (hb : ∀ (kV doc pm ct : Value) (an : Option Addr) (us : List Value), us.length = (["self", "points"] : List Str).length → bindArgs (PySem.W.ksFn "__init__" "Goes.__init__" (C8.fnArgs sGoesInit) (C8.fnBody sGoesInit) (C8.fnScope sGoesInit) .none kV doc pm an (.ref cda) ct cc) ⟨us, []⟩ = pure ((["self", "points"] : List Str).zip us))
    (FP : FnR P w K mg base CX0 6 fP (spPapR K)) : FnR P w K mg base CX0 7 f (spGoesI K C) := by
  refine fnr_cls (N := nGoes) (k := 6) T scGoes hb (fun vs H Q E ⟨p, dx, v, pts, μ, ev, _⟩ => by rw [ev]; rfl) fun A outer s H vs Q E s1 hr hsp I => ?_
  obtain ⟨p, dx, v, pts, μ, ev, m, hp, r1, hl1, hl2, hq⟩ := hsp
  subst ev
  have hμp := mu_ins m hp
  obtain ⟨ox, od, J⟩ := ins_inst I hp
  let X := SX P w K mg base nGoes sGoesInit "Goes.__init__" f cda cc A outer s H E
  have second : PSs X (List.drop 1 (C8.fnBody sGoesInit)) _ := pss_one (ps_fld (pv 0) (pe_ix ix_seq (pe_fld (pv 0) rfl) pe_int (by intro _ _; rfl)) rfl)
  refine ks_wpAt_execs_cons (_root_.PySem.wpAt_mono (sup_stmt (Dn := { nx := fun σ' H' => cSs X (List.drop 1 (C8.fnBody sGoesInit)) { nx := fun _ H' => Q .non H', rt := Q } σ' H', rt := fun _ _ => False }) T I rfl rfl rfl rfl rfl rfl rfl J S.sub S.any S.find S.ty S.fn FP hr (pa_cons pe_str (pa_cons (pv 1) pa_nil)) ?_) (fun fl s' hs => ?_) fun e s' hs => hs)
  · refine ⟨v, rfl, [.ref p, .str "goes"], [v], rfl, rfl, by show 1 ≤ sizeLine; decide, fun t ht => ?_⟩
    have e1 := ex_new (μ := μ) (o := .tup [v]) ht
    have hne : p ≠ t := ne_of_none hp ht
    refine ⟨p, t, C, dx, .str "goes", "goes", [.list (pts.map rowD)], μ, rfl, S.pap, m.new ht, by rw [upd_ne hne]; exact hp, .str _, .tup (hid_new m ht) (.cons (Dv.mono e1 _ _ r1) .nil), .tup (by show 1 ≤ 900; decide) (fun d hd => by rw [List.mem_singleton] at hd; subst hd; exact fx_pts hl1 hl2), fun Hf v2 e2 m2 h2 d2 => ?_⟩
    refine cSs_of second ?_
    simp only [fixD, fixDs, fix_rows] at d2
    cases d2 with
    | @tup a2 xs _ g1 g2 =>
      cases g2 with
      | @cons v3 _ _ _ g3 g4 =>
        cases g4
        refine ⟨_, rfl, p, C, dx, _, _, rfl, h2, S.pap.cl, S.pap.nP, rfl, ?_⟩
        refine .inr (.inl ⟨a2, [v3], 0, v3, rfl, rfl, SqT.of (hid_le _ _ g1), rfl, ?_⟩)
        refine ⟨_, rfl, p, C, dx, _, rfl, h2, S.pap.cl, nPts, (by show 2 < 1000; decide), ?_⟩
        have s5 := exS_upd (μ := μ) (o := .ins C dx [("word", .str "goes"), ("parts", .ref a2), ("points", v3)]) h2
        refine hq _ [("word", .str "goes"), ("parts", .ref a2), ("points", v3)] (((ExB.of e1).trans e2).trans (ExB.upd hμp)) (m2.updI h2) upd_same ?_
        have g3' := Dv.monoS s5 _ _ g3
        refine .cons ⟨rfl, .str _⟩ (.cons ⟨rfl, ?_⟩ (.cons ⟨rfl, g3'⟩ .nil))
        refine Dv.monoS s5 _ _ (.tup g1 (.cons g3 .nil))
  · cases fl with
    | next =>
      obtain ⟨σ', H', J2, hs⟩ := hs
      exact _root_.PySem.wpAt_of_wpAny (hs [] s' J2)
    | ret u => obtain ⟨_, _, _, _, _, z⟩ := hs; exact z.elim
    | brk => obtain ⟨_, _, _, z⟩ := hs; exact z.elim
    | cont => obtain ⟨_, _, _, z⟩ := hs; exact z.elim
abbrev sStopsInit : Stmt := clsS 67 0
abbrev nStops : List Str := ["self", "step", "point", "__class__"]
theorem scStops : NScope nStops ["self", "step", "point"] ["__class__"] (C8.fnScope sStopsInit) := nscope_by (by decide +kernel)
def stopsF (i : Int) (q : List Rat) : List (Str × PyData) := [("word", .str "stops"), ("parts", .tuple [.int i, rowD q]), ("step", .int i), ("point", rowD q)]
def spStopsI (K : PySem.W.Frag) (C : Addr) : Sp := fun vs H Q _ => ∃ (p dx : Addr) (v v' : V) (i : Int) (q : List Rat) (μ : Mu), vs = [.ref p, v, v'] ∧ MuOk μ H ∧ H p = some (.ins C dx []) ∧ Dv (hid H μ) v (.int i) ∧ Dv (hid H μ) v' (rowD q) ∧ q.length ≤ 900 ∧
  ∀ (Hf : Hp) (fs : List (Str × V)), ExB p (hid H μ) (hid Hf μ) → MuOk μ Hf → Hf p = some (.ins C dx fs) → FDv (hid Hf μ) fs (stopsF i q) → Q .non Hf
theorem fnr_stops {f C fP cda cc : Addr} (T : SupAt P K mg sStopsInit "Stops.__init__" f C cda cc) (S : SubT K C fP) (nSt : NoAttr K C "step") (nPt : NoAttr K C "point")
    (hb : ∀ (kV doc pm ct : Value) (an : Option Addr) (us : List Value), us.length = (["self", "step", "point"] : List Str).length → bindArgs (PySem.W.ksFn "__init__" "Stops.__init__" (C8.fnArgs sStopsInit) (C8.fnBody sStopsInit) (C8.fnScope sStopsInit) .none kV doc pm an (.ref cda) ct cc) ⟨us, []⟩ = pure ((["self", "step", "point"] : List Str).zip us))
    (FP : FnR P w K mg base CX0 6 fP (spPapR K)) : FnR P w K mg base CX0 7 f (spStopsI K C) := by
  refine fnr_cls (N := nStops) (k := 6) T scStops hb (fun vs H Q E ⟨p, dx, v, v', i, q, μ, ev, _⟩ => by rw [ev]; rfl) fun A outer s H vs Q E s1 hr hsp I => ?_
  obtain ⟨p, dx, v, v', i, q, μ, ev, m, hp, r1, r2, hl, hq⟩ := hsp
  subst ev
  have hμp := mu_ins m hp
  obtain ⟨ox, od, J⟩ := ins_inst I hp
  let X := SX P w K mg base nStops sStopsInit "Stops.__init__" f cda cc A outer s H E
  have second : PSs X (List.drop 1 (C8.fnBody sStopsInit)) _ := pss_one (ps_asg (pe_fld (pv 0) rfl) (pg_tup rfl (pgs_cons (pg_fld (pv 0)) (pgs_cons (pg_fld (pv 0)) pgs_nil))) rfl rfl rfl)
  refine ks_wpAt_execs_cons (_root_.PySem.wpAt_mono (sup_stmt (Dn := { nx := fun σ' H' => cSs X (List.drop 1 (C8.fnBody sStopsInit)) { nx := fun _ H' => Q .non H', rt := Q } σ' H', rt := fun _ _ => False }) T I rfl rfl rfl rfl rfl rfl rfl J S.sub S.any S.find S.ty S.fn FP hr (pa_cons pe_str (pa_cons (pv 1) (pa_cons (pv 2) pa_nil))) ?_) (fun fl s' hs => ?_) fun e s' hs => hs)
  · refine ⟨v, rfl, v', rfl, [.ref p, .str "stops"], [v, v'], rfl, rfl, by show 2 ≤ sizeLine; decide, fun t ht => ?_⟩
    have e1 := ex_new (μ := μ) (o := .tup [v, v']) ht
    have hne : p ≠ t := ne_of_none hp ht
    refine ⟨p, t, C, dx, .str "stops", "stops", [.int i, rowD q], μ, rfl, S.pap, m.new ht, by rw [upd_ne hne]; exact hp, .str _, .tup (hid_new m ht) (.cons (Dv.mono e1 _ _ r1) (.cons (Dv.mono e1 _ _ r2) .nil)), .tup (by show 2 ≤ 900; decide) (fun d hd => ?_), fun Hf v2 e2 m2 h2 d2 => ?_⟩
    · rcases List.mem_cons.mp hd with rfl | hd
      · exact .int _ _
      · rw [List.mem_singleton] at hd; subst hd; exact (fx_row hl).up (by decide)
    refine cSs_of second ?_
    have ed : fixD (.tuple [.int i, rowD q]) = .tuple [.int i, rowD q] := by
      have := fix_row q
      simp only [fixD, fixDs] at this ⊢
      rw [this]
    rw [ed] at d2
    cases d2 with
    | @tup a2 xs _ g1 g2 =>
      cases g2 with
      | @cons v3 _ _ _ g3 g4 =>
        cases g4 with
        | @cons v4 _ _ _ g5 g6 =>
          cases g6
          refine ⟨_, rfl, p, C, dx, _, _, rfl, h2, S.pap.cl, S.pap.nP, rfl, ?_⟩
          refine ⟨a2, [v3, v4], rfl, SqT.of (hid_le _ _ g1), rfl, v3, _, rfl, .ref p, rfl, p, C, dx, _, rfl, h2, S.pap.cl, nSt, (by show 2 < 1000; decide), ?_⟩
          refine ⟨v4, _, rfl, .ref p, rfl, p, C, dx, _, rfl, upd_same, S.pap.cl, nPt, (by show 3 < 1000; decide), rfl, ?_⟩
          have hu : (upd Hf p (.ins C dx [("word", .str "stops"), ("parts", .ref a2), ("step", v3)])) p = some (.ins C dx [("word", .str "stops"), ("parts", .ref a2), ("step", v3)]) := upd_same
          have s5 := exS_upd (μ := μ) (o := .ins C dx [("word", .str "stops"), ("parts", .ref a2), ("step", v3)]) h2
          have s6 := exS_upd (μ := μ) (o := .ins C dx [("word", .str "stops"), ("parts", .ref a2), ("step", v3), ("point", v4)]) hu
          refine hq _ [("word", .str "stops"), ("parts", .ref a2), ("step", v3), ("point", v4)] ((((ExB.of e1).trans e2).trans (ExB.upd hμp)).trans (ExB.upd hμp)) ((m2.updI h2).updI hu) upd_same ?_
          have up : ∀ d u, Dv (hid Hf μ) u d → Dv (hid (upd (upd Hf p (.ins C dx [("word", .str "stops"), ("parts", .ref a2), ("step", v3)])) p (.ins C dx [("word", .str "stops"), ("parts", .ref a2), ("step", v3), ("point", v4)])) μ) u d := fun d u h => Dv.monoS s6 _ _ (Dv.monoS s5 _ _ h)
          exact .cons ⟨rfl, .str _⟩ (.cons ⟨rfl, up _ _ (.tup g1 (.cons g3 (.cons g5 .nil)))⟩ (.cons ⟨rfl, up _ _ g3⟩ (.cons ⟨rfl, up _ _ g5⟩ .nil)))
  · cases fl with
    | next =>
      obtain ⟨σ', H', J2, hs⟩ := hs
      exact _root_.PySem.wpAt_of_wpAny (hs [] s' J2)
    | ret u => obtain ⟨_, _, _, _, _, z⟩ := hs; exact z.elim
    | brk => obtain ⟨_, _, _, z⟩ := hs; exact z.elim
    | cont => obtain ⟨_, _, _, z⟩ := hs; exact z.elim
end
end T12
end
section
set_option Elab.async false
set_option linter.all false
set_option maxRecDepth 100000
set_option maxHeartbeats 4000000
set_option exponentiation.threshold 5000
namespace T12
open NdefX ClX StX
open PySem PySem.Spec PyProof.Rows L2
/-- a class that may be made, by a positional promise of its __init__ -/
structure MakR (P : Program) (w : World) (K : PySem.W.Frag) (mg : Str → Option Value) (base : Heap) (k : Nat) (x : Str) (C : Addr) (sp : Sp) : Prop where
  ex : ∃ f, Mk K C f ∧ FnR P w K mg base CX0 k f sp ∧ mg x = some (.ref C)
theorem made_ex {H1 Hf : Hp} {μ : Mu} {x dx C : Addr} (nx : H1 x = none) (ndx : H1 dx = none) (ne : dx ≠ x) (e : ExB x (hid (upd (upd H1 dx (.own x)) x (.ins C dx [])) μ) (hid Hf μ)) : Ex (hid H1 μ) (hid Hf μ) := by
  have nx' : (upd H1 dx (.own x)) x = none := by rw [upd_ne (fun z => ne z.symm)]; exact nx
  have e2 : Ex (hid H1 μ) (hid (upd (upd H1 dx (.own x)) x (.ins C dx [])) μ) := (ex_new ndx).trans (ex_new nx')
  intro b u q
  exact e b u (ne_of_none (hid_le _ _ q) nx) (e2 b u q)
section
variable {X : Cx} {ρ : Sl} {μ : Mu} {Q : SV → Mu → Prop} {e : Expr} {es : List Expr} {pos p : Pos} {C : Addr}
theorem de_mkGoes {k j : Nat} (c : MakR X.prog X.w X.K X.mg X.base k "Goes" C (spGoesI X.K C)) (hr : Room j X.A) (hk : k + 1 ≤ j) (h : DA X (e :: es) ρ μ fun xs m => ∃ pts, xs = [.d (.list (pts.map rowD))] ∧ pts.length ≤ 900 ∧ (∀ q ∈ pts, q.length ≤ 900) ∧ Q (.o C (goesF pts)) m) (hg : Gl X "Goes" := by rfl)
    (he : starEach (e :: es) X.env = (false, eval e X.env) :: starEach es X.env := by rfl) (hpl : (backTo pos (starEach es X.env)).any (·.1) = false := by rfl) :
    DE X (.Call (.Name "Goes" p) (e :: es) [] pos) ρ μ Q := fun σ H R Qc k => by
  obtain ⟨f, M, F, hm⟩ := c.ex
  refine cE_of (pe_makeR M F (hr.mono hk) hg hm (C8.pass0 (E := C8.E0)) (pa_k (e :: es)) (by decide) he hpl) (h σ H R _ fun xs m vs H1 ⟨pts, ex, l1, l2, q⟩ e1 m1 r1 => ?_)
  subst ex
  cases r1 with
  | cons g1 t =>
    cases t
    intro x dx nx ndx ne
    have nx' : (upd H1 dx (.own x)) x = none := by rw [upd_ne (fun z => ne z.symm)]; exact nx
    have e2 : Ex (hid H1 m) (hid (upd (upd H1 dx (.own x)) x (.ins C dx [])) m) := (ex_new ndx).trans (ex_new nx')
    refine ⟨x, dx, _, pts, m, rfl, (m1.new ndx).new nx', upd_same, Dv.mono e2 _ _ g1, l1, l2, fun Hf fs e3 m3 h3 f3 => ⟨rfl, ?_⟩⟩
    exact k _ m _ _ q (e1.trans (made_ex nx ndx ne e3)) m3 ⟨x, dx, fs, rfl, by rw [hid_of (mu_ins m3 h3)]; exact h3, f3⟩
theorem de_mkStops {k j : Nat} (c : MakR X.prog X.w X.K X.mg X.base k "Stops" C (spStopsI X.K C)) (hr : Room j X.A) (hk : k + 1 ≤ j) (h : DA X (e :: es) ρ μ fun xs m => ∃ i q, xs = [.d (.int i), .d (rowD q)] ∧ q.length ≤ 900 ∧ Q (.o C (stopsF i q)) m) (hg : Gl X "Stops" := by rfl)
    (he : starEach (e :: es) X.env = (false, eval e X.env) :: starEach es X.env := by rfl) (hpl : (backTo pos (starEach es X.env)).any (·.1) = false := by rfl) :
    DE X (.Call (.Name "Stops" p) (e :: es) [] pos) ρ μ Q := fun σ H R Qc k => by
  obtain ⟨f, M, F, hm⟩ := c.ex
  refine cE_of (pe_makeR M F (hr.mono hk) hg hm (C8.pass0 (E := C8.E0)) (pa_k (e :: es)) (by decide) he hpl) (h σ H R _ fun xs m vs H1 ⟨i, qq, ex, l1, q⟩ e1 m1 r1 => ?_)
  subst ex
  cases r1 with
  | cons g1 t =>
    cases t with
    | cons g2 t =>
      cases t
      intro x dx nx ndx ne
      have nx' : (upd H1 dx (.own x)) x = none := by rw [upd_ne (fun z => ne z.symm)]; exact nx
      have e2 : Ex (hid H1 m) (hid (upd (upd H1 dx (.own x)) x (.ins C dx [])) m) := (ex_new ndx).trans (ex_new nx')
      refine ⟨x, dx, _, _, i, qq, m, rfl, (m1.new ndx).new nx', upd_same, Dv.mono e2 _ _ g1, Dv.mono e2 _ _ g2, l1, fun Hf fs e3 m3 h3 f3 => ⟨rfl, ?_⟩⟩
      exact k _ m _ _ q (e1.trans (made_ex nx ndx ne e3)) m3 ⟨x, dx, fs, rfl, by rw [hid_of (mu_ins m3 h3)]; exact h3, f3⟩
end
section
variable {P : Program} {w : World} {K : PySem.W.Frag} {mg : Str → Option Value} {base : Heap}
abbrev sRunIn : Stmt := topS 70
theorem scRunIn : FnScope ["machine", "point", "way", "found"] ["machine", "point", "way"] (C8.fnScope sRunIn) := ⟨rfl, rfl, rfl, by decide +kernel, rfl, by decide +kernel, by decide +kernel⟩
/-- what a run tells -/
def Told (CG CS : Addr) (ps : List Pc) (qs : List Rat) (ns : List Nat) (Q : SV → Prop) : Prop :=
  ((runQ ps qs ns).length = ns.length + 1 → Q (.o CG (goesF (runQ ps qs ns)))) ∧ ((runQ ps qs ns).length ≠ ns.length + 1 → ∀ l x, runQ ps qs ns = l ++ [x] → Q (.o CS (stopsF (l.length : Nat) x)))
def spRunIn (C CG CS : Addr) : DSp := fun xs μ Q => ∃ (n : Nat) (ps : List Pc) (qs : List Rat) (ns : List Nat) (a : Nat), xs = [.o C (mcF n ps), .d (rowD qs), .d (wayT ns)] ∧ (∀ p ∈ ps, Pk p) ∧ Pw a qs ∧ a + 32 * ns.length ≤ 380 ∧ (∀ n ∈ ns, n < ps.length) ∧ Told CG CS ps qs ns (fun x => Q x μ)
theorem run_len (ps : List Pc) (qs : List Rat) (ns : List Nat) : (runQ ps qs ns).length ≤ ns.length + 1 := by
  unfold runQ
  rw [List.length_cons]
  exact Nat.succ_le_succ (steps_le ps ns qs)
theorem run_pw {ps : List Pc} {qs : List Rat} {ns : List Nat} {a : Nat} (hp : ∀ p ∈ ps, Pk p) (h : Pw a qs) : ∀ q ∈ runQ ps qs ns, Pw (a + 32 * ns.length) q := fun q hq => by
  unfold runQ at hq
  rcases List.mem_cons.mp hq with rfl | hq
  · exact h.mono (by omega)
  · exact steps_pw hp ns qs a h q hq
theorem run_last (ps : List Pc) (qs : List Rat) (ns : List Nat) : ∃ l x, runQ ps qs ns = l ++ [x] := by
  have hne : runQ ps qs ns ≠ [] := by unfold runQ; simp
  exact ⟨_, _, (List.dropLast_concat_getLast hne).symm⟩
theorem ok_run_in {C CG CS : Addr} (T : Tp K mg "run_in" sRunIn ["machine", "point", "way"] []) (B : Bl mg) (c_on : C8.Cal P w K mg base 7 "points_on" (spD K 3 (spPointsOn C)) []) (c_goes : MakR P w K mg base 7 "Goes" CG (spGoesI K CG)) (c_stops : MakR P w K mg base 7 "Stops" CS (spStopsI K CS)) : C8.Cal P w K mg base 9 "run_in" (spD K 3 (spRunIn C CG CS)) [] := by
  refine d_ok (k := 8) T .nil scRunIn rfl fun f cdv A outer s H E hr xs μ Q hl ⟨n, ps, qs, ns, a, ex, hps, hqs, ha, hns, hq⟩ => ?_
  subst ex
  obtain ⟨hq1, hq2⟩ := hq
  obtain ⟨l, x, he⟩ := run_last ps qs ns
  have hlen := run_len ps qs ns
  have hpw := run_pw (ns := ns) hps hqs
  have hn20 : ns.length ≤ 20 := by omega
  refine dss_cons (ds_set (i := 3) scRunIn.nd (de_call c_on hr (by decide) (da_cons (dv 0 (da_cons (dv 1 (da_cons (dv 2 (da_nil ⟨rfl, n, ps, qs, ns, a, rfl, hps, hqs, ha, hns, ?_⟩)))))))))
  refine dss_cons (ds_ret (de_if (dt_cmp (dc_eqI (de_len B.len (dv 3 ⟨_, rfl, de_add (de_len B.len (dv 2 ⟨_, rfl, de_int ⟨_, _, rfl, rfl, _, _, rfl, rfl, _, rfl, ?_⟩⟩))⟩))))))
  have hd : decide (((((runQ ps qs ns).map rowD).length : Nat) : Int) = (((ns.map fun n : Nat => PyData.int (n : Nat)).length : Nat) : Int) + 1) = decide ((runQ ps qs ns).length = ns.length + 1) := by
    rw [List.length_map, List.length_map, decide_eq_decide]; omega
  by_cases hc : (runQ ps qs ns).length = ns.length + 1
  · refine iteP (hd.trans (decide_eq_true hc)) ?_
    exact de_mkGoes c_goes hr (by decide) (da_cons (dv 3 (da_nil ⟨_, rfl, by omega, fun q hq => Nat.le_trans (hpw q hq).1 (by decide), hq1 hc⟩)))
  · refine iteN (hd.trans (decide_eq_false hc)) ?_
    refine de_mkStops c_stops hr (by decide) (da_cons (de_sub (de_len B.len (dv 3 ⟨_, rfl, de_int ⟨_, _, rfl, rfl, ?_⟩⟩))))
    refine da_cons (de_ix (dv 3 (de_neg (de_int ⟨_, rfl, (runQ ps qs ns).map rowD, -1, rowD x, rfl, rfl, ?_, da_nil ⟨((l.length : Nat) : Int), x, ?_, ?_, hq2 hc l x he⟩⟩))))
    · rw [he]; exact last_row
    · rw [List.length_map, he, List.length_append, List.length_singleton, show (((l.length + 1 : Nat) : Int) - 1) = ((l.length : Nat) : Int) by omega]
    · exact Nat.le_trans (hpw x (by rw [he]; simp)).1 (by decide)
abbrev sJudgedRun : Stmt := topS 71
theorem scJudgedRun : FnScope ["machine", "point", "way", "kept"] ["machine", "point", "way"] (C8.fnScope sJudgedRun) := ⟨rfl, rfl, rfl, by decide +kernel, rfl, by decide +kernel, by decide +kernel⟩
def spJudgedRun (C CG CS : Addr) : DSp := fun xs μ Q => ∃ (ps : List Pc) (qs : List Rat) (ns : List Nat) (a : Nat), xs = [.o C (mcF qs.length ps), .d (rowD qs), .d (wayD ns)] ∧ (∀ p ∈ ps, Pk p) ∧ Pw a qs ∧ a + 32 * ns.length ≤ 380 ∧ 1 ≤ ns.length ∧ (∀ n ∈ ns, n < ps.length) ∧ Told CG CS ps qs ns (fun x => Q x μ)
theorem ok_judged_run {C CG CS : Addr} (T : Tp K mg "judged_run" sJudgedRun ["machine", "point", "way"] []) (M : McT K mg C) (B : Bl mg) (c_nm : C8.Cal P w K mg base 1 "need_machine" (spD K 2 (spNeedMachine C)) [.str "machine"]) (c_np : C8.Cal P w K mg base 4 "need_point" (spD K 3 spNeedPoint) [.str "point"])
    (c_nw : C8.Cal P w K mg base 3 "need_way" (spD K 3 (spNeedWay C)) [.str "way"]) (c_run : C8.Cal P w K mg base 9 "run_in" (spD K 3 (spRunIn C CG CS)) []) : C8.Cal P w K mg base 10 "judged_run" (spD K 3 (spJudgedRun C CG CS)) [] := by
  refine d_ok (k := 9) T .nil scJudgedRun rfl fun f cdv A outer s H E hr xs μ Q hl ⟨ps, qs, ns, a, ex, hps, hqs, ha, h1, hns, hq⟩ => ?_
  subst ex
  refine dss_cons (ds_expr (de_callD (dx := [.d (.str "machine")]) c_nm (fun G => .cons (.str _) .nil) hr (by decide) (da_cons (dv 0 (da_nil ⟨rfl, qs.length, ps, _, rfl, ?_⟩)))))
  refine dss_cons (ds_set (i := 3) scJudgedRun.nd (de_callD (dx := [.d (.str "point")]) c_np (fun G => .cons (.str _) .nil) hr (by decide) (da_cons (dv 1 (da_cons (de_fld M.cl M.nW (dv 0 ⟨_, _, rfl, rfl, da_nil ⟨rfl, qs, "point", rfl, by have := hqs.1; omega, ?_⟩⟩)))))))
  refine dss_cons (ds_ret (de_call c_run hr (by decide) (da_cons (dv 0 (da_cons (dv 3 (da_cons ?_)))))))
  refine de_callD (dx := [.d (.str "way")]) c_nw (fun G => .cons (.str _) .nil) hr (by decide) (da_cons (dv 0 (da_cons (dv 2 (da_nil ⟨rfl, qs.length, ps, ns, _, rfl, h1, by omega, hns, ?_⟩)))))
  exact da_nil ⟨rfl, qs.length, ps, qs, ns, a, rfl, hps, hqs, ha, hns, hq⟩
end
end T12
end
section
set_option Elab.async false
set_option linter.all false
set_option maxRecDepth 100000
set_option maxHeartbeats 4000000
set_option exponentiation.threshold 5000
namespace T12
open NdefX ClX StX
open PySem PySem.Spec PyProof.Rows L2
/-! ### functions whose caller is known to stand under no guard (repr of containers asks for it) -/
structure FnG (P : Program) (w : World) (K : PySem.W.Frag) (mg : Str → Option Value) (base : Heap) (k : Nat) (f : Addr) (fd : FuncData) (ps : List Str) (sp : Sp) : Prop where
  len : ∀ vs H Q E, sp vs H Q E → vs.length = ps.length
  run : ∀ (A : Around) (outer : List Env) (s : Shared) (H : Hp) (args : Args) (us : List Value) (vs : List V) (Q : VK) (E : XK), Room k A → A.guards = some [] → Env0 P w K mg base A outer s H → BindsTo s fd args (ps.zip us) → Vals vs us → sp vs H Q E →
    codeAny (model P w) A (.call (.ref f) args) (CR C8.CX0 outer P w H s Q E) s
theorem FnG.mono {P : Program} {w : World} {K : PySem.W.Frag} {mg : Str → Option Value} {base : Heap} {j k : Nat} {f : Addr} {fd : FuncData} {ps : List Str} {sp : Sp} (F : FnG P w K mg base j f fd ps sp) (h : j ≤ k) :
    FnG P w K mg base k f fd ps sp := ⟨F.len, fun A outer s H args us vs Q E hr => F.run A outer s H args us vs Q E (hr.mono h)⟩
theorem guards_deeper {A : Around} {env : Env} (h : A.guards = some []) : (A.deeper env).guards = some [] := by
  first | exact h | (simp only [Around.deeper]; exact h)
theorem fnG_of {P : Program} {w : World} {K : PySem.W.Frag} {mg : Str → Option Value} {base : Heap} {k : Nat} {f : Addr} {name qual : Str} {params : Arguments} {body : List Stmt} {scope : Scope} {dV kV doc pm cdv ct oc : Value} {an od : Option Addr}
    {osl : Array (Option Value)} {N ps : List Str} {sp : Sp} (lk : K.lookup f = some ⟨oc, od, .func (PySem.W.fnOf name qual params body scope dV kV doc pm an cdv ct), osl⟩) (hcd : PySem.W.codeIn K cdv qual = true) (S : FnScope N ps scope)
    (len : ∀ vs H Q E, sp vs H Q E → vs.length = ps.length)
    (hbody : ∀ (A : Around) (outer : List Env) (s : Shared) (H : Hp) (vs : List V) (Q : VK) (E : XK), Room k (A.deeper (envOfC qual scope s.heap.objs.size f cdv)) → (A.deeper (envOfC qual scope s.heap.objs.size f cdv)).guards = some [] → sp vs H Q E →
      ∃ t, PSs (cxOf C8.CX0 P w K mg base N qual scope f cdv A outer s H E) body t ∧ t { nx := fun _ H' => Q .non H', rt := Q } (L2.start N vs) H) :
    FnG P w K mg base (k + 1) f (PySem.W.fnOf name qual params body scope dV kV doc pm an cdv ct) ps sp := by
  refine ⟨len, fun A outer s H args us vs Q E hr hgd e0 hb r hsp => ?_⟩
  have hl := len _ _ _ _ hsp
  have KX : K.In s.heap := e0.mod.kin.keeps fun b o e => (e0.bs b o e).1
  have lim : s.heap.NoLimit := e0.mod.nolimit.keeps fun b o e => (e0.bs b o e).1
  have hkind : ∀ y ∈ ps.zip us, scope.names.lookup y.1 = some .local ∨ (scope.names.lookup y.1 = some .cell ∧ ((cellsFrom (s.heap.objs.size + 1) scope.names []).lookup y.1).isSome = true) := fun ⟨n, v⟩ hy => by
    rcases S.par n (List.of_mem_zip hy).1 with q | q
    · exact .inl q
    · exact .inr ⟨q, PySem.W.cellsFrom_some _ _ _ (.inl q)⟩
  refine codeAny_call_function hr.depth (KX _ _ lk) rfl S.co S.gen rfl (PySem.W.codeRec_of KX hcd) (hb _ _ _ _ ?_)
  refine wpAny_newFunctionEnv_cells S.kind hkind fun env he s1 x => ?_
  subst he
  refine ⟨lim.keeps x.toInCall.keep, codeAny_func ?_⟩
  obtain ⟨t, ht, hq⟩ := hbody A outer s H vs Q E (hr.deeper _) (guards_deeper hgd) hsp
  have I : Inv (cxOf C8.CX0 P w K mg base N qual scope f cdv A outer s H E) [] (L2.start N vs) H s1 := inv_start S hr.hd e0 hl r x
  refine wpAny_mono (ht.run [] s1 (L2.start N vs) H _ I hq) (fun fl s' hs => ?_) fun e s' hs => hs
  have fin : ∀ {σ' : L2.St} {H' : Hp} {v : V} {u : Value}, Inv (cxOf C8.CX0 P w K mg base N qual scope f cdv A outer s H E) [] σ' H' s' → RelV v u → Q v H' → CE outer P w H s Q u s' :=
    fun {σ' H' v u} J rv q => ⟨v, H', J.os, J.bare, J.base, J.hok, rv, q⟩
  cases fl with
  | ret u =>
    obtain ⟨v, σ', H', J, rv, q⟩ := hs
    exact fin J rv q
  | next =>
    obtain ⟨σ', H', J, q⟩ := hs
    exact fin (v := V.non) (u := Value.none) J rfl q
  | brk =>
    obtain ⟨_, _, _, q⟩ := hs
    exact False.elim q
  | cont =>
    obtain ⟨_, _, _, q⟩ := hs
    exact False.elim q
structure CalG (P : Program) (w : World) (K : PySem.W.Frag) (mg : Str → Option Value) (base : Heap) (k : Nat) (x : Str) (sp : Sp) : Prop where
  ex : ∃ (f : Addr) (fd : FuncData) (ps : List Str), FnG P w K mg base k f fd ps sp ∧ mg x = some (.ref f) ∧ PySem.W.keepIn K (.ref f) = true ∧ Binds K fd ps []
section
variable {P : Program} {w : World} {K : PySem.W.Frag} {mg : Str → Option Value} {base : Heap}
theorem d_okG {x : Str} {st : Stmt} {N ps : List Str} {k n : Nat} {dsp : DSp} (T : Tp K mg x st ps []) (S : FnScope N ps (C8.fnScope st)) (hn : ps.length = n)
    (h : ∀ (f : Addr) (cdv : Value) (A : Around) (outer : List Env) (s : Shared) (H : Hp) (E : XK), Room k (BD P w K mg base N x st f cdv A outer s H E).A → (BD P w K mg base N x st f cdv A outer s H E).A.guards = some [] → ∀ (xs : List SV) (μ : Mu) (Q : SV → Mu → Prop), xs.length = n → dsp xs μ Q →
      DSs (BD P w K mg base N x st f cdv A outer s H E) (C8.fnBody st) (startD N xs) μ { nx := fun _ m => Q (.d .none) m, rt := Q }) : CalG P w K mg base (k + 1) x (spD K n dsp) := by
  obtain ⟨f, fd, F, b⟩ := T.ex
  refine ⟨f, fd, ps, ?_, F.mgf, F.kp, b⟩
  obtain ⟨oc, od, dV, kV, doc, pm, an, cdv, ct, osl, rfl, lk, hcd⟩ := F.fn.ex
  refine fnG_of lk hcd S (fun vs H Q E ⟨xs, μ, P', hl, _, r, _, _⟩ => by rw [← Paired.length r, hl, hn]) fun A outer s H vs Q E hr hgd hsp => ?_
  obtain ⟨xs, μ, P', hl, m, r, q, kk⟩ := hsp
  have body := h f cdv A outer s H E hr hgd xs μ P' hl q
  refine ⟨cSs (BD P w K mg base N x st f cdv A outer s H E) (C8.fnBody st), (pss_k (X := BD P w K mg base N x st f cdv A outer s H E) _).nox, ?_⟩
  refine body (L2.start N vs) H (rep_start m r) _ ⟨fun ρ' μ' σ' H' z e1 R1 => ?_, kk, fun _ _ _ _ z => z.elim, fun _ _ _ _ z => z.elim⟩
  exact kk _ μ' _ H' z e1 R1.mu .non
end
section
variable {X : Cx} {ρ : Sl} {μ : Mu} {Q : SV → Mu → Prop} {e : Expr} {es : List Expr} {pos p : Pos}
theorem run_fnG {k : Nat} {f : Addr} {fd : FuncData} {ps : List Str} {sp : Sp} {pins : List (Addr × Obj)} {σ : L2.St} {H : Hp} {s : Shared} {Q : VK} {us : List Value} {vs : List V} (F : FnG X.prog X.w X.K X.mg X.base k f fd ps sp) (hr : Room k X.A) (hgd : X.A.guards = some []) (hb : Binds X.K fd ps [])
    (I : Inv X pins σ H s) (r : Vals vs us) (h : sp vs H Q C8.E0) : wpAny (model X.prog X.w) X.A (call (.ref f) us) (EP X pins σ Q) X.xe s := by
  have hl : (us ++ []).length = ps.length := by rw [List.append_nil, ← r.length]; exact F.len _ _ _ _ h
  refine wpAny_call (codeAny_mono (F.run X.A X.stack s H ⟨us, []⟩ (us ++ []) vs Q C8.E0 hr hgd I.env0 (hb s us I.kIn hl) (by rw [List.append_nil]; exact r) h) fun r s' hq => ?_)
  cases r with
  | error e => exact (C8.pass0 (E := C8.E0)) pins σ H s e s' I hq
  | ok fl =>
    cases fl with
    | ret u => exact I.after hq
    | next => exact False.elim hq
    | brk => exact False.elim hq
    | cont => exact False.elim hq
theorem pe_cG {x : Str} {k j : Nat} {sp : Sp} {t : TA} (c : CalG X.prog X.w X.K X.mg X.base k x sp) (hr : Room j X.A) (hk : k ≤ j) (hgd : X.A.guards = some []) (hg : Gl X x) (ha : PA X (e :: es) t)
    (hdb : (x == ("__debug__" : Str)) = false := by decide) (he : starEach (e :: es) X.env = (false, eval e X.env) :: starEach es X.env := by rfl) (hpl : (backTo pos (starEach es X.env)).any (·.1) = false := by rfl) :
    PE X (.Call (.Name x p) (e :: es) [] pos) (fun σ H Q => t σ H fun vs H1 => sp vs H1 Q C8.E0) := by
  obtain ⟨f, fd, ps, F, hm, kp, b⟩ := c.ex
  refine ⟨fun pins s σ H Q I h => ?_⟩
  refine wpAny_Call_Name_kw (ld_glob I hg hm ?_ hdb)
  refine PySem.W.callWith_K (h₀ := X.base) I.ok.mod.kin kp (thn (ha.run pos pins s σ H _ I h) fun us s1 ⟨vs, H1, I1, r, q⟩ => ⟨I1.kIn, ?_⟩) he hpl
  exact run_fnG F (hr.mono hk) hgd b I1 r q
theorem de_callG {x : Str} {n k j : Nat} {dsp : DSp} (c : CalG X.prog X.w X.K X.mg X.base k x (spD X.K n dsp)) (hr : Room j X.A) (hk : k ≤ j) (hgd : X.A.guards = some []) (h : DA X (e :: es) ρ μ fun xs m => xs.length = n ∧ dsp xs m Q) (hg : Gl X x := by rfl)
    (hdb : (x == ("__debug__" : Str)) = false := by decide) (he : starEach (e :: es) X.env = (false, eval e X.env) :: starEach es X.env := by rfl) (hpl : (backTo pos (starEach es X.env)).any (·.1) = false := by rfl) :
    DE X (.Call (.Name x p) (e :: es) [] pos) ρ μ Q := fun σ H R Qc k =>
  cE_of (pe_cG c hr hk hgd hg (pa_k (e :: es)) hdb he hpl) (h σ H R _ fun xs μ1 vs H1 ⟨hn, q⟩ e1 m1 r1 => ⟨xs, μ1, Q, hn, m1, r1, q, k.from e1⟩)
/-! ### repr of a list or a tuple -/
def isSeqD : PyData → Bool
  | .list _ | .tuple _ => true
  | _ => false
theorem call_reprD (hgd : X.A.guards = some []) (hu : X.A.units + 64 < cLine) : CallR X (.builtin "repr") (fun xs H Q => ∃ v d, xs = [v] ∧ Dp X.K H v d ∧ isSeqD d = true ∧ d.showable = true ∧ d.hasDict = false ∧ d.depth ≤ 60 ∧ d.shown.length ≤ sizeLine ∧ Q (.str d.shown) H) := by
  intro pins s σ H xs us Q I r h
  obtain ⟨v, d, rfl, hd, hsq, hs, hnd, hdp, hz, q⟩ := h
  obtain ⟨u, rfl, rx⟩ := vals1 r
  obtain ⟨as, rd⟩ := Dp.reads I d v u hd rx
  have ha : ∃ a, u = .ref a := by
    cases rd <;> first | exact ⟨_, rfl⟩ | (simp [isSeqD] at hsq)
  obtain ⟨a, rfl⟩ := ha
  exact repr_of_reads' rd hs (fun hx => by rw [hnd] at hx; cases hx) hgd (by omega) (fun _ _ e => e) (fun h' t tk hk => ⟨.str d.shown, H, I.kept hk, ⟨t, rfl⟩, q⟩) hz
theorem de_repr {k : Nat} (hm : X.mg "repr" = none) (hr : Room k X.A) (hgd : X.A.guards = some []) (h : DE X e ρ μ fun x m => ∃ d, x = .d d ∧ isSeqD d = true ∧ d.showable = true ∧ d.hasDict = false ∧ d.depth ≤ 60 ∧ d.shown.length ≤ sizeLine ∧ Q (.d (.str d.shown)) m) (hg : Gl X "repr" := by rfl)
    (he : starEach [e] X.env = (false, eval e X.env) :: starEach [] X.env := by rfl) (hpl : (backTo pos (starEach [] X.env)).any (·.1) = false := by rfl) : DE X (.Call (.Name "repr" p) [e] [] pos) ρ μ Q :=
  de_callB (call_reprD hgd hr.units) hm (by decide +kernel) (da_cons (h.imp fun x m ⟨d, ex, h1, h2, h3, h4, h5, q⟩ => da_nil fun H vs Qc mm r k => by
    subst ex
    cases r with
    | cons r1 r2 =>
      cases r2
      exact ⟨_, d, rfl, Dv.dp hid_le d _ r1, h1, h2, h3, h4, h5, k _ _ _ H q (Ex.refl _) mm (.str _)⟩) he) hg (by decide) (by decide) he hpl
end
/-! ### sizes of texts -/
end T12
end
section
set_option Elab.async false
set_option linter.all false
set_option maxRecDepth 100000
set_option maxHeartbeats 4000000
set_option exponentiation.threshold 5000
namespace T12
open NdefX ClX StX
open PySem PySem.Spec PyProof.Rows L2
/-- data whose text is short -/
structure Sz (N n : Nat) (d : PyData) : Prop where
  sh : d.showable = true
  nd : d.hasDict = false
  dp : d.depth ≤ n
  len : d.shown.length ≤ N
theorem Sz.mono {N n N' n' : Nat} {d : PyData} (h : Sz N n d) (h1 : N ≤ N') (h2 : n ≤ n') : Sz N' n' d := ⟨h.sh, h.nd, Nat.le_trans h.dp h2, Nat.le_trans h.len h1⟩
theorem natAbs_log {i : Int} {k : Nat} (hk : 0 < k) (h : i.natAbs < 2 ^ k) : i.natAbs.log2 < k := by
  by_cases h0 : i.natAbs = 0
  · rw [h0]; exact hk
  · exact (Nat.log2_lt h0).mpr h
theorem sz_int {i : Int} (h : i.natAbs < 2 ^ 400) : Sz 402 0 (.int i) := by
  have hl := natAbs_log (by decide) h
  refine ⟨?_, rfl, Nat.le_refl _, ?_⟩
  · simp only [PyData.showable, decide_eq_true_eq]; omega
  · have e := int_text_length_le (k := 400) (by decide) hl
    rw [PyData.shown_int]
    show (Str.ofString (toString i)).length ≤ 402
    rw [PySem.ofString_length]; omega
theorem sz_all {N n : Nat} : ∀ {ds : List PyData}, (∀ d ∈ ds, Sz N n d) → PyData.showableAll ds = true ∧ PyData.hasDictAll ds = false ∧ PyData.depthAll ds ≤ n ∧ ((PyData.shownAll ds).map (·.length)).sum ≤ N * ds.length
  | [], _ => ⟨rfl, rfl, Nat.zero_le _, Nat.zero_le _⟩
  | d :: ds, h => by
    obtain ⟨a1, a2, a3, a4⟩ := h d List.mem_cons_self
    obtain ⟨b1, b2, b3, b4⟩ := sz_all fun x hx => h x (List.mem_cons_of_mem _ hx)
    refine ⟨?_, ?_, ?_, ?_⟩
    · simp only [PyData.showableAll, a1, b1, Bool.and_true]
    · simp only [PyData.hasDictAll, a2, b2, Bool.or_false]
    · simp only [PyData.depthAll]; omega
    · rw [PyData.shownAll_cons, List.map_cons, List.sum_cons, List.length_cons, Nat.mul_succ]; omega
theorem sz_tup {N n : Nat} {ds : List PyData} (h : ∀ d ∈ ds, Sz N n d) : Sz ((N + 2) * ds.length + 3) (n + 1) (.tuple ds) := by
  obtain ⟨b1, b2, b3, b4⟩ := sz_all h
  refine ⟨by simpa only [PyData.showable] using b1, by simpa only [PyData.hasDict] using b2, by simp only [PyData.depth]; omega, ?_⟩
  have e := tupleText_len_le (PyData.shownAll ds)
  rw [PyData.shownAll_length] at e
  simp only [PyData.shown]
  rw [Nat.add_mul]
  omega
theorem sz_lst {N n : Nat} {ds : List PyData} (h : ∀ d ∈ ds, Sz N n d) : Sz ((N + 2) * ds.length + 3) (n + 1) (.list ds) := by
  obtain ⟨b1, b2, b3, b4⟩ := sz_all h
  refine ⟨by simpa only [PyData.showable] using b1, by simpa only [PyData.hasDict] using b2, by simp only [PyData.depth]; omega, ?_⟩
  have e := listText_len_le (PyData.shownAll ds)
  rw [PyData.shownAll_length] at e
  simp only [PyData.shown]
  rw [Nat.add_mul]
  omega
theorem sz_num {q : Rat} (h1 : q.num.natAbs < 2 ^ 400) (h2 : q.den < 2 ^ 400) : Sz 820 1 (numD q) := by
  by_cases c : q.den = 1
  · rw [numD_one c]; exact (sz_int h1).mono (by decide) (by decide)
  · rw [numD_two c]
    refine (sz_tup (N := 402) (n := 0) fun d hd => ?_).mono (show (402 + 2) * 2 + 3 ≤ 820 by decide) (by decide)
    rcases List.mem_cons.mp hd with rfl | hd
    · exact sz_int h1
    · rcases List.mem_cons.mp hd with rfl | hd
      · exact sz_int (by rw [Int.natAbs_natCast]; exact h2)
      · cases hd
theorem mulmono {a b c d : Nat} (h1 : a ≤ b) (h2 : c ≤ d) : a * c + 3 ≤ b * d + 3 := Nat.add_le_add_right (Nat.mul_le_mul h1 h2) 3
theorem sz_row {qs : List Rat} (hl : qs.length ≤ 2) (h : ∀ q ∈ qs, q.num.natAbs < 2 ^ 400 ∧ q.den < 2 ^ 400) : Sz 2000 2 (rowD qs) := by
  have hs := sz_tup (N := 820) (n := 1) (ds := qs.map numD) fun d hd => by
    obtain ⟨q, hq, rfl⟩ := List.mem_map.mp hd
    exact sz_num (h q hq).1 (h q hq).2
  rw [List.length_map] at hs
  refine hs.mono ?_ (by decide)
  have := mulmono (Nat.le_refl (820 + 2)) hl
  omega
theorem Pw.sz {a : Nat} {qs : List Rat} (h : Pw a qs) (ha : a ≤ 390) : Sz 2000 2 (rowD qs) := by
  refine sz_row h.1 fun q hq => ?_
  obtain ⟨_, D, N, h0, h1, h2, h3⟩ := h
  have hw := h3 q hq
  exact ⟨Nat.lt_of_le_of_lt hw.num (le400 h2 ha), Nat.lt_of_le_of_lt hw.den (le400 h1 ha)⟩
theorem sz_repr {N n : Nat} {d : PyData} (h : Sz N n d) (h1 : N ≤ 16777216) (h2 : n ≤ 60) (h3 : isSeqD d = true) : isSeqD d = true ∧ d.showable = true ∧ d.hasDict = false ∧ d.depth ≤ 60 ∧ d.shown.length ≤ sizeLine :=
  ⟨h3, h.sh, h.nd, Nat.le_trans h.dp h2, Nat.le_trans h.len (by rw [sizeLine_eq]; exact h1)⟩
end T12
end
section
set_option Elab.async false
set_option linter.all false
set_option maxRecDepth 100000
set_option maxHeartbeats 4000000
set_option exponentiation.threshold 5000
namespace T12
open NdefX ClX StX
open PySem PySem.Spec PyProof.Rows L2
/-- what a class must have to be true or false by an own __bool__ -/
structure BoolT (K : PySem.W.Frag) (C f : Addr) : Prop where
  find : PySem.W.findIn K (.ref C) "__bool__" = some (some (.ref f))
  fn : PySem.W.isFn K (.ref f) = true
/-- the truth of an instance, by the own __bool__ -/
structure TruthO (P : Program) (w : World) (K : PySem.W.Frag) (mg : Str → Option Value) (base : Heap) (n : Nat) (C : Addr) (k : Bool) : Prop where
  ex : ∃ (f : Addr) (fd : FuncData) (ps : List Str), BoolT K C f ∧ FnOk P w K mg base CX0 n f fd ps (spD K 1 (fun xs μ Q => (∃ x, xs = [x]) ∧ Q (.d (.bool k)) μ)) ∧ Binds K fd ps []
section
variable {X : Cx} {ρ : Sl} {μ : Mu} {Q : SV → Mu → Prop} {QB : Bool → Mu → Prop} {e : Expr} {pos p : Pos}
theorem dt_truthO {C : Addr} {n j : Nat} {k : Bool} (T : TruthO X.prog X.w X.K X.mg X.base n C k) (hr : Room j X.A) (hj : n ≤ j) (h : DE X e ρ μ fun x m => ∃ fs, x = .o C fs ∧ QB k m) (he : ∀ whole, isTrue e X.env whole = (do let v ← whole; standAt e.pos; holding [v] (truthy v)) := by intro _; rfl) : DT X e ρ μ QB := fun σ H R Qc kk pins s I => by
  obtain ⟨f, fd, ps, B, F, hb⟩ := T.ex
  refine isTrue_plain (thn (h σ H R (fun v H1 => ∃ a dx vs, v = .ref a ∧ H1 a = some (.ins C dx vs) ∧ ∃ μ1, MuOk μ1 H1 ∧ Ex (hid H μ) (hid H1 μ1) ∧ (∃ fs, Rv X.K (hid H1 μ1) (.o C fs) (.ref a)) ∧ QB k μ1) (fun x μ1 v H1 ⟨fs, ex, q⟩ e1 m1 r1 => by
    subst ex
    have r1' := r1
    obtain ⟨a, dx, vs, rfl, ha, _⟩ := r1'
    exact ⟨a, dx, vs, rfl, hid_le _ _ ha, μ1, m1, e1, ⟨fs, r1⟩, q⟩) pins s I) fun v s1 ⟨x, H1, I1, rx, a, dx, vs, ex, ha, μ1, m1, e1, ⟨fs, r1⟩, q⟩ => ?_) (he _)
  subst ex
  cases rx
  obtain ⟨m, Fm⟩ := I1.fr
  obtain ⟨ox, od, J⟩ := ins_inst I1 ha
  refine PySem.W.truthy_K Fm I1.ok.mod.kin J B.find B.fn ?_
  refine wpAny_mono (run_fn (us := [.ref a]) (vs := [.ref a]) (Q := fun v H' => v = .bl k ∧ Qc k H') F (hr.mono hj) hb .nil (C8.pass0 (E := C8.E0)) I1 (.cons rfl .nil) ?_) (fun u s2 ⟨z, H2, I2, rz, ez, q2⟩ => ?_) fun _ _ z => z
  · refine ⟨[.o C fs], _, fun z m => z = .d (.bool k) ∧ m = μ1, rfl, m1, .cons r1 .nil, ⟨⟨_, rfl⟩, rfl, rfl⟩, fun z m' v H' ⟨ez, em⟩ e' mm rz => ?_⟩
    subst ez; subst em
    cases rz
    exact ⟨rfl, kk k _ H' q (e1.trans e') mm⟩
  · subst ez
    cases rz
    exact ⟨H2, I2, q2⟩
end
section
variable {P : Program} {w : World} {K : PySem.W.Frag} {mg : Str → Option Value} {base : Heap}
abbrev sPapBool : Stmt := clsS 62 1
abbrev sDenBool : Stmt := clsS 63 0
theorem scPapBool : FnScope ["self"] ["self"] (C8.fnScope sPapBool) := ⟨rfl, rfl, rfl, by decide +kernel, rfl, by decide +kernel, by decide +kernel⟩
theorem scDenBool : FnScope ["self"] ["self"] (C8.fnScope sDenBool) := ⟨rfl, rfl, rfl, by decide +kernel, rfl, by decide +kernel, by decide +kernel⟩
theorem truth_pap {C f : Addr} {fd : FuncData} (B : BoolT K C f) (F : C8.Fun K "__bool__" "Paper.__bool__" sPapBool f fd) (hb : Binds K fd ["self"] []) : TruthO P w K mg base 1 C true := by
  refine ⟨f, fd, _, B, d_fn (k := 0) F scPapBool rfl fun cdv A outer s H E hr xs μ Q hl ⟨⟨x, ex⟩, hq⟩ => ?_, hb⟩
  subst ex
  exact dss_cons (ds_ret (de_bl hq))
theorem truth_den {C f : Addr} {fd : FuncData} (B : BoolT K C f) (F : C8.Fun K "__bool__" "Denial.__bool__" sDenBool f fd) (hb : Binds K fd ["self"] []) : TruthO P w K mg base 1 C false := by
  refine ⟨f, fd, _, B, d_fn (k := 0) F scDenBool rfl fun cdv A outer s H E hr xs μ Q hl ⟨⟨x, ex⟩, hq⟩ => ?_, hb⟩
  subst ex
  exact dss_cons (ds_ret (de_bl hq))
end
end T12
end
section
set_option Elab.async false
set_option linter.all false
set_option maxRecDepth 100000
set_option maxHeartbeats 4000000
set_option exponentiation.threshold 5000
namespace T12
open NdefX ClX StX
open PySem PySem.Spec PyProof.Rows L2
section
variable {X : Cx} {ρ : Sl} {μ : Mu} {Q : SV → Mu → Prop} {a b : Expr}
theorem dc_neS (h : DE X a ρ μ fun x μ1 => DE X b ρ μ1 fun y μ2 => ∃ s t : Str, x = .d (.str s) ∧ y = .d (.str t) ∧ Q (.d (.bool (!decide (s = t)))) μ2) : DC X .NotEq a b ρ μ Q :=
  dc_of L2.op_ne (nomark _) (h.imp fun _ _ z => z.imp fun _ _ z H v u Qc m r1 r2 k => by
    obtain ⟨s, t, rfl, rfl, q⟩ := z
    cases r1
    cases r2
    refine ⟨rfl, ?_⟩
    rw [show decide (V.str s = V.str t) = decide (s = t) by rw [decide_eq_decide]; exact ⟨fun e => by cases e; rfl, fun e => by rw [e]⟩]
    exact k _ _ _ H q (Ex.refl _) m (.bl _))
end
section
variable {P : Program} {w : World} {K : PySem.W.Frag} {mg : Str → Option Value} {base : Heap}
abbrev sLawGoesAlike : Stmt := topS 90
abbrev nAlike : List Str := ["_law_wharf_here", "_law_pieces_here", "_law_other", "_law_shift", "_law_many", "_law_turn", "_law_point_here", "_law_way_here", "_law_told", "_law_due", "_law_there_here", "_law_each"]
theorem scLawGoesAlike : FnScope nAlike ["_law_wharf_here", "_law_pieces_here", "_law_other", "_law_shift", "_law_many"] (C8.fnScope sLawGoesAlike) := ⟨rfl, rfl, rfl, by decide +kernel, rfl, by decide +kernel, by decide +kernel⟩
/-- the pieces ps' go at led points as ps at points -/
def Alike (n : Nat) (ps ps' : List Pc) (o : Option (List Int)) : Prop := ∀ (qs : List Rat) (ns : List Nat), qs.length = n → runQ ps' (thereQ qs o) ns = (runQ ps qs ns).map fun q => thereQ q o
def ShOk (n : Nat) (o : Option (List Int)) : Prop := ∀ s, o = some s → s.length = n ∧ ∀ i ∈ s, i.natAbs ≤ 2 ^ 30
theorem there_len {n : Nat} {qs : List Rat} {o : Option (List Int)} (hq : qs.length = n) (ho : ShOk n o) : (thereQ qs o).length = n := by
  cases o with
  | none => unfold thereQ; rw [List.length_map]; exact hq
  | some s =>
    have := (ho s rfl).1
    show (List.map _ _).length = n
    rw [List.length_map, List.length_zip, hq, this, Nat.min_self]
def spLawGoesAlike (C : Addr) : DSp := fun xs μ Q => ∃ (wa : Addr) (cs : List Int) (t : Int) (n k : Nat) (ps ps' : List Pc) (o : Option (List Int)), xs = [.m wa, .d (piecesD ps), .o C (mcF n ps'), .d (shD o), .d (.int (k : Nat))] ∧ n ≤ 2 ∧ k ≤ 2 ∧ (∀ p ∈ ps, Dr p n) ∧ ps ≠ [] ∧ ps.length ≤ 100 ∧ (∀ p ∈ ps', Pk p) ∧ ps'.length = ps.length ∧ ShOk n o ∧ Alike n ps ps' o ∧ cs.length ≤ 100 ∧ Wst μ wa cs t ∧ t ≤ 4500 ∧
  ∀ μ', Aft μ wa cs (t + 100) μ' → Q (.d (.bool true)) μ'
theorem ok_law_goes_alike {C CG CS : Addr} (T : Tp K mg "_law_goes_alike" sLawGoesAlike ["_law_wharf_here", "_law_pieces_here", "_law_other", "_law_shift", "_law_many"] []) (B : Bl mg) (hR : mg "repr" = none) (PG : PapT K CG) (PS : PapT K CS) (nG : NoAttr K CG "points") (tG : TruthO P w K mg base 1 CG true) (tS : TruthO P w K mg base 1 CS false)
    (c_moor : C8.Cal P w K mg base 1 "_law_moor" (spD K 2 spLawMoor) []) (c_point : C8.Cal P w K mg base 3 "_law_point" (spD K 2 spLawPoint) []) (c_way : C8.Cal P w K mg base 4 "_law_way" (spD K 4 spLawWay) []) (c_there : C8.Cal P w K mg base 3 "_law_there" (spD K 2 spLawThere) [])
    (c_run : C8.Cal P w K mg base 4 "_law_run" (spD K 3 spLawRun) []) (c_judged : C8.Cal P w K mg base 10 "judged_run" (spD K 3 (spJudgedRun C CG CS)) []) : CalG P w K mg base 11 "_law_goes_alike" (spD K 5 (spLawGoesAlike C)) := by
  refine d_okG (k := 10) T scLawGoesAlike rfl fun f cdv A outer s H E hr hgd xs μ Q hl ⟨wa, cs, t, n, k, ps, ps', o, ex, hn, hk, hps, hne0, hlen, hps', hll, ho, hal, hcs, hw, ht, hq⟩ => ?_
  subst ex
  have hpk : ∀ p ∈ ps, Pk p := fun p hp => (hps p hp).pk hn
  refine dss_cons (ds_for .never (di_range B.range (dv 4 ⟨k, rfl, by omega, by omega, ?_⟩)))
  refine dfor_inv (e := fun i : Nat => .int (i : Nat)) (fun l ρ m => (∃ r1 r2 r3 r4 r5 r6 r7 : Option SV, ρ = [some (.m wa), some (.d (piecesD ps)), some (.o C (mcF n ps')), some (.d (shD o)), some (.d (.int (k : Nat))), r1, r2, r3, r4, r5, r6, r7]) ∧
    ∃ j : Nat, j + l.length = k ∧ Aft μ wa cs (t + 50 * j) m) ?_ ?_ (List.range k) _ _ ⟨⟨none, none, none, none, none, none, none, rfl⟩, 0, by rw [List.length_range, Nat.zero_add], hw.refl.up (by omega)⟩
  · rintro i l ρ m ⟨⟨r1, r2, r3, r4, r5, r6, r7, rfl⟩, j, hj, haft⟩
    rw [List.length_cons] at hj
    refine dg_name (i := 5) scLawGoesAlike.nd (dss_cons (ds_set (i := 6) scLawGoesAlike.nd (de_call c_point hr (by decide) (da_cons (dv 0 (da_cons (dv 1 (da_nil ⟨rfl, wa, cs, t + 50 * j, n, ps, rfl, hn, hps, hne0, hlen, hcs, haft.st, by omega, fun qs m1 hql hqw ha1 => ?_⟩))))))))
    refine dss_cons (ds_set (i := 7) scLawGoesAlike.nd (de_call c_way hr (by decide) (da_cons (dv 0 (da_cons (dv 1 (da_cons (dv 6 (da_cons (de_add (de_int ?_)))))))))))
    refine de_call c_moor hr (by decide) (da_cons (dv 0 (da_cons (de_int (da_nil ⟨rfl, wa, cs, t + 50 * j + 20, 6, rfl, hcs, ha1.st, by omega, by decide, by decide, fun r m2 hr2 ha2 => ?_⟩)))))
    refine ⟨1, (r : Nat), rfl, rfl, da_nil ⟨rfl, wa, cs, t + 50 * j + 20 + 1, ps, qs, 14, 1 + r, rfl, hpk, hne0, hlen, hqw, by omega, by omega, hcs, ha2.st, by omega, fun ns m3 hnl hns ha3 => ?_⟩⟩
    have haf : Aft μ wa cs (t + 50 * (j + 1 : Nat)) m3 := (((haft.trans ha1).trans ha2).trans ha3).up (by omega)
    have hnl7 : ns.length ≤ 7 := by omega
    have hthw := there_pw hqw (fun s e => (ho s e).2)
    have hrw : ∀ q ∈ runQ ps qs ns, Pw (14 + 32 * ns.length) q := run_pw hpk hqw
    have hal' := hal qs ns hql
    have hlr := run_len ps qs ns
    generalize hrun : runQ ps qs ns = run at hal' hrw hlr
    have hlr' : (runQ ps' (thereQ qs o) ns).length = run.length := by rw [hal', List.length_map]
    have hthr : ∀ q ∈ run, Pw (14 + 32 * ns.length + 32) (thereQ q o) := fun q hq => there_pw (hrw q hq) (fun s e => (ho s e).2)
    refine dss_cons (ds_par (i := 8) (j := 9) scLawGoesAlike.nd (de_call c_judged hr (by decide) (da_cons (dv 2 (da_cons (de_call c_there hr (by decide) (da_cons (dv 6 (da_cons (dv 3 (da_nil ⟨rfl, qs, o, 14, rfl, hqw, by decide, fun s e => (ho s e).2, ?_⟩)))))))))))
    refine da_cons (dv 7 (da_nil ⟨rfl, ps', thereQ qs o, ns, 14 + 32, by rw [there_len hql ho], hps', hthw, by omega, by omega, fun x hx => by rw [hll]; exact hns x hx, ?_⟩))
    -- the rest of the turn behind the parallel assignment, from what is told
    have hd : decide (((((run).map rowD).length : Nat) : Int) = (((ns.map fun n : Nat => PyData.int (n : Nat)).length : Nat) : Int) + 1) = decide (run.length = ns.length + 1) := by
      rw [List.length_map, List.length_map, decide_eq_decide]; omega
    have hmm : run.map (fun q => rowD (thereQ q o)) = (run.map fun q => thereQ q o).map rowD := by rw [List.map_map]; rfl
    refine ⟨fun hc => ?_, fun hc l2 x2 he => ?_⟩
    · rw [hlr'] at hc
      refine de_call c_run hr (by decide) (da_cons (dv 1 (da_cons (dv 6 (da_cons (dv 7 (da_nil ⟨rfl, ps, qs, ns, 14, rfl, hpk, hqw, by omega, hns, ?_⟩)))))))
      rw [hrun, hal']
      refine dss_cons (slc1 10 11 scLawGoesAlike (di_list (dv 9 ⟨_, rfl, ?_, ?_⟩)))
      · rw [List.length_map]; omega
      refine dlc_map (e := rowD) (g := fun q => rowD (thereQ q o)) run [] (fun q hq2 => ⟨_, rfl, fun m s0 H0 C0 cl0 fp0 => ?_⟩) ?_
      · exact de_call c_there hr (by decide) (da_cons (dv 11 (da_cons (dv 3 (da_nil ⟨rfl, q, o, 14 + 32 * ns.length, rfl, hrw q hq2, by omega, fun s e => (ho s e).2, rfl, rfl⟩)))))
      rw [List.nil_append]
      refine dss_cons (ds_if (dt_cmp (dc_eqI (de_len B.len (dv 9 ⟨_, rfl, de_add (de_len B.len (dv 7 ⟨_, rfl, de_int ⟨_, _, rfl, rfl, _, _, rfl, rfl, _, rfl, ?_⟩⟩))⟩)))))
      refine iteP (hd.trans (decide_eq_true hc)) ?_
      refine dss_cons (ds_if (dt_w (dw_or (dt_not (dt_truthO tG hr (by decide) (dv 8 ⟨_, rfl, ?_⟩))))))
      refine iteF (dw_or1 (dt_cmp (dc_neS (de_repr hR hr hgd (de_fld PG.cl nG (dv 8 ⟨_, _, rfl, rfl, ?_⟩))))))
      have hsz : Sz 20000 3 (.tuple ((run.map fun q => thereQ q o).map rowD)) := by
        refine (sz_tup (N := 2000) (n := 2) fun d hd => ?_).mono ?_ (by decide)
        · obtain ⟨z, hz, rfl⟩ := List.mem_map.mp hd
          obtain ⟨z', hz', rfl⟩ := List.mem_map.mp hz
          exact (hthr z' hz').sz (by omega)
        · rw [List.length_map, List.length_map]
          have := mulmono (Nat.le_refl (2000 + 2)) (show run.length ≤ 8 by omega)
          omega
      obtain ⟨s1, s2, s3, s4, s5⟩ := sz_repr hsz (by decide) (by decide) rfl
      refine ⟨_, rfl, s1, s2, s3, s4, s5, de_repr hR hr hgd (de_tuple B.tuple (dv 10 ⟨_, rfl, _, rfl, ?_⟩))⟩
      rw [hmm]
      refine ⟨s1, s2, s3, s4, s5, _, _, rfl, rfl, _, rfl, ?_⟩
      rw [decide_eq_true rfl]
      refine iteF (dss_nil (dss_nil (dss_nil ⟨⟨_, _, _, _, _, _, _, rfl⟩, j + 1, by omega, haf⟩)))
    · rw [hlr'] at hc
      refine de_call c_run hr (by decide) (da_cons (dv 1 (da_cons (dv 6 (da_cons (dv 7 (da_nil ⟨rfl, ps, qs, ns, 14, rfl, hpk, hqw, by omega, hns, ?_⟩)))))))
      rw [hrun]
      rw [hal'] at he
      refine dss_cons (slc1 10 11 scLawGoesAlike (di_list (dv 9 ⟨_, rfl, ?_, ?_⟩)))
      · rw [List.length_map]; omega
      refine dlc_map (e := rowD) (g := fun q => rowD (thereQ q o)) run [] (fun q hq2 => ⟨_, rfl, fun m s0 H0 C0 cl0 fp0 => ?_⟩) ?_
      · exact de_call c_there hr (by decide) (da_cons (dv 11 (da_cons (dv 3 (da_nil ⟨rfl, q, o, 14 + 32 * ns.length, rfl, hrw q hq2, by omega, fun s e => (ho s e).2, rfl, rfl⟩)))))
      rw [List.nil_append]
      refine dss_cons (ds_if (dt_cmp (dc_eqI (de_len B.len (dv 9 ⟨_, rfl, de_add (de_len B.len (dv 7 ⟨_, rfl, de_int ⟨_, _, rfl, rfl, _, _, rfl, rfl, _, rfl, ?_⟩⟩))⟩)))))
      refine iteN (hd.trans (decide_eq_false hc)) ?_
      refine dss_cons (ds_if (dt_w (dw_or (dt_truthO tS hr (by decide) (dv 8 ⟨_, rfl, ?_⟩)))))
      refine iteF (dw_or1 (dt_cmp (dc_neS (de_repr hR hr hgd (de_fld PS.cl PS.nP (dv 8 ⟨_, _, rfl, rfl, ?_⟩))))))
      have hxm : x2 ∈ run.map fun q => thereQ q o := by rw [he]; simp
      have hx2 : Sz 2000 2 (rowD x2) := by
        obtain ⟨z', hz', rfl⟩ := List.mem_map.mp hxm
        exact (hthr z' hz').sz (by omega)
      have hl2 : run.length = l2.length + 1 := by rw [← List.length_map (f := fun q => thereQ q o), he, List.length_append, List.length_singleton]
      have hsz : Sz 20000 3 (.tuple [.int (l2.length : Nat), rowD x2]) := by
        refine (sz_tup (N := 2000) (n := 2) fun d hd => ?_).mono (show (2000 + 2) * 2 + 3 ≤ 20000 by decide) (by decide)
        rcases List.mem_cons.mp hd with rfl | hd
        · exact (sz_int (by rw [Int.natAbs_natCast]; exact Nat.lt_of_le_of_lt (show l2.length ≤ 8 by omega) (Nat.lt_of_lt_of_le (by decide : 8 < 2 ^ 4) (Nat.pow_le_pow_right (by decide) (by decide))))).mono (by decide) (by decide)
        · rw [List.mem_singleton] at hd; rw [hd]; exact hx2
      obtain ⟨s1, s2, s3, s4, s5⟩ := sz_repr hsz (by decide) (by decide) rfl
      refine ⟨_, rfl, s1, s2, s3, s4, s5, de_repr hR hr hgd ?_⟩
      refine de_tup (da_cons (de_sub (de_len B.len (dv 9 ⟨_, rfl, de_int ⟨_, _, rfl, rfl, ?_⟩⟩))))
      refine da_cons (de_ix (dv 10 (de_neg (de_int ⟨_, rfl, run.map (fun q => rowD (thereQ q o)), -1, rowD x2, rfl, rfl, ?_, da_nil ?_⟩))))
      · rw [hmm, he]; exact last_row
      rw [List.length_map, hl2, show (((l2.length + 1 : Nat) : Int) - 1) = ((l2.length : Nat) : Int) by omega]
      refine ⟨_, rfl, rfl, _, rfl, s1, s2, s3, s4, s5, _, _, rfl, rfl, _, rfl, ?_⟩
      rw [decide_eq_true rfl]
      refine iteF (dss_nil (dss_nil (dss_nil ⟨⟨_, _, _, _, _, _, _, rfl⟩, j + 1, by omega, haf⟩)))
  · rintro ρ m ⟨⟨r1, r2, r3, r4, r5, r6, r7, rfl⟩, j, hj, haft⟩
    rw [List.length_nil] at hj
    exact dss_cons (ds_ret (de_bl (hq m (haft.up (by omega)))))
end
end T12
end
section
set_option Elab.async false
set_option linter.all false
set_option maxRecDepth 100000
set_option maxHeartbeats 4000000
set_option exponentiation.threshold 5000
namespace T12
open NdefX ClX StX
open PySem PySem.Spec PyProof.Rows L2
/-! ### plain math: the shifted, the turned machine -/
theorem len1 {α : Type} {l : List α} (h : l.length = 1) : ∃ a, l = [a] := by
  match l, h with
  | [a], _ => exact ⟨a, rfl⟩
theorem len2 {α : Type} {l : List α} (h : l.length = 2) : ∃ a b, l = [a, b] := by
  match l, h with
  | [a, b], _ => exact ⟨a, b, rfl⟩
theorem Pc.Wd.one {p : Pc} (h : p.Wd 1) : ∃ c a b, p = ⟨[c], [[a]], [b]⟩ := by
  obtain ⟨cs, rs, ss⟩ := p
  obtain ⟨c, rfl⟩ := len1 h.c
  obtain ⟨r, rfl⟩ := len1 h.r
  obtain ⟨b, rfl⟩ := len1 h.s
  obtain ⟨a, rfl⟩ := len1 (h.e r List.mem_cons_self)
  exact ⟨c, a, b, rfl⟩
theorem Pc.Wd.two {p : Pc} (h : p.Wd 2) : ∃ c d a b e f g i, p = ⟨[c, d], [[a, b], [e, f]], [g, i]⟩ := by
  obtain ⟨cs, rs, ss⟩ := p
  obtain ⟨c, d, rfl⟩ := len2 h.c
  obtain ⟨r, r', rfl⟩ := len2 h.r
  obtain ⟨g, i, rfl⟩ := len2 h.s
  obtain ⟨a, b, rfl⟩ := len2 (h.e r List.mem_cons_self)
  obtain ⟨e, f, rfl⟩ := len2 (h.e r' (List.mem_cons_of_mem _ List.mem_cons_self))
  exact ⟨c, d, a, b, e, f, g, i, rfl⟩
def outC (c : Int) (q : Rat) : Bool := decide (q < (c : Rat)) || decide (((c + 1 : Int) : Rat) < q)
theorem held_one {c : Int} {q : Rat} : heldQ [c] [q] = !outC c q := by
  show (!([outC c q]).any id) = _
  simp
theorem held_two {c d : Int} {q r : Rat} : heldQ [c, d] [q, r] = !(outC c q || outC d r) := by
  show (!([outC c q, outC d r]).any id) = _
  simp
theorem out_shift (c s : Int) (q : Rat) : outC (c + s) (q + (s : Rat)) = outC c q := by
  unfold outC
  have e1 : ((c + s : Int) : Rat) = (c : Rat) + (s : Rat) := Rat.intCast_add c s
  have e2 : ((c + s + 1 : Int) : Rat) = (c : Rat) + (s : Rat) + 1 := by rw [Rat.intCast_add, e1]; rfl
  have e3 : ((c + 1 : Int) : Rat) = (c : Rat) + 1 := by rw [Rat.intCast_add]; rfl
  rw [e1, e2, e3]
  have a1 : (q + (s : Rat) < (c : Rat) + (s : Rat)) ↔ (q < (c : Rat)) := by constructor <;> intro h <;> grind
  have a2 : ((c : Rat) + (s : Rat) + 1 < q + (s : Rat)) ↔ ((c : Rat) + 1 < q) := by constructor <;> intro h <;> grind
  rw [decide_eq_decide.mpr a1, decide_eq_decide.mpr a2]
theorem neg_one : ((-1 : Int) : Rat) = -1 := rfl
theorem out_mir (c : Int) (q : Rat) : outC (-c - 1) (q * ((-1 : Int) : Rat)) = outC c q := by
  unfold outC
  have e1 : ((-c - 1 : Int) : Rat) = -(c : Rat) - 1 := by rw [Rat.intCast_sub, Rat.intCast_neg]; rfl
  have e2 : ((-c - 1 + 1 : Int) : Rat) = -(c : Rat) := by rw [show -c - 1 + 1 = -c by omega, Rat.intCast_neg]
  have e3 : ((c + 1 : Int) : Rat) = (c : Rat) + 1 := by rw [Rat.intCast_add]; rfl
  rw [e1, e2, e3, neg_one]
  have a1 : (q * -1 < -(c : Rat) - 1) ↔ ((c : Rat) + 1 < q) := by constructor <;> intro h <;> grind
  have a2 : (-(c : Rat) < q * -1) ↔ (q < (c : Rat)) := by constructor <;> intro h <;> grind
  rw [decide_eq_decide.mpr a1, decide_eq_decide.mpr a2, Bool.or_comm]
theorem dot_one (a q : Rat) : dotQ [a] [q] = a * q + 0 := rfl
theorem dot_two (a b q r : Rat) : dotQ [a, b] [q, r] = a * q + (b * r + 0) := rfl
theorem led_one (a b q : Rat) : ledQ [[a]] [b] [q] = [dotQ [a] [q] + b] := rfl
theorem led_two (a b e f g i q r : Rat) : ledQ [[a, b], [e, f]] [g, i] [q, r] = [dotQ [a, b] [q, r] + g, dotQ [e, f] [q, r] + i] := rfl
/-- one step goes alike -/
def StepOk (n : Nat) (F : Pc → Pc) (o : Option (List Int)) (p : Pc) : Prop := ∀ qs : List Rat, qs.length = n → heldQ (F p).corner (thereQ qs o) = heldQ p.corner qs ∧ ledQ (F p).rows (F p).shift (thereQ qs o) = thereQ (ledQ p.rows p.shift qs) o ∧ (ledQ p.rows p.shift qs).length = n
theorem step_moved {n : Nat} {p : Pc} {s : List Int} (h : p.Wd n) (h1 : 1 ≤ n) (h2 : n ≤ 2) (hs : s.length = n) : StepOk n (fun p => movedQ p s) (some s) p := by
  intro qs hq
  have hn : n = 1 ∨ n = 2 := by omega
  rcases hn with rfl | rfl
  · obtain ⟨c, a, b, rfl⟩ := h.one
    obtain ⟨s0, rfl⟩ := len1 hs
    obtain ⟨q, rfl⟩ := len1 hq
    refine ⟨?_, ?_, rfl⟩
    · show heldQ [c + s0] [q + (s0 : Rat)] = heldQ [c] [q]
      rw [held_one, held_one, out_shift]
    · show [dotQ [a] [q + (s0 : Rat)] + (b + (s0 : Rat) - dotQ [a] [(s0 : Rat)])] = [dotQ [a] [q] + b + (s0 : Rat)]
      simp only [dot_one]
      congr 1
      grind
  · obtain ⟨c, d, a, b, e, f, g, i, rfl⟩ := h.two
    obtain ⟨s0, s1, rfl⟩ := len2 hs
    obtain ⟨q, r, rfl⟩ := len2 hq
    refine ⟨?_, ?_, rfl⟩
    · show heldQ [c + s0, d + s1] [q + (s0 : Rat), r + (s1 : Rat)] = heldQ [c, d] [q, r]
      rw [held_two, held_two, out_shift, out_shift]
    · show [dotQ [a, b] [q + (s0 : Rat), r + (s1 : Rat)] + (g + (s0 : Rat) - dotQ [a, b] [(s0 : Rat), (s1 : Rat)]), dotQ [e, f] [q + (s0 : Rat), r + (s1 : Rat)] + (i + (s1 : Rat) - dotQ [e, f] [(s0 : Rat), (s1 : Rat)])] = [dotQ [a, b] [q, r] + g + (s0 : Rat), dotQ [e, f] [q, r] + i + (s1 : Rat)]
      simp only [dot_two]
      congr 1
      · grind
      · congr 1
        grind
theorem step_mir {n : Nat} {p : Pc} (h : p.Wd n) (h1 : 1 ≤ n) (h2 : n ≤ 2) : StepOk n mirQ none p := by
  intro qs hq
  have hn : n = 1 ∨ n = 2 := by omega
  rcases hn with rfl | rfl
  · obtain ⟨c, a, b, rfl⟩ := h.one
    obtain ⟨q, rfl⟩ := len1 hq
    refine ⟨?_, ?_, rfl⟩
    · show heldQ [-c - 1] [q * ((-1 : Int) : Rat)] = heldQ [c] [q]
      rw [held_one, held_one, out_mir]
    · show [dotQ [a] [q * ((-1 : Int) : Rat)] + b * ((-1 : Int) : Rat)] = [(dotQ [a] [q] + b) * ((-1 : Int) : Rat)]
      simp only [dot_one, neg_one]
      congr 1
      grind
  · obtain ⟨c, d, a, b, e, f, g, i, rfl⟩ := h.two
    obtain ⟨q, r, rfl⟩ := len2 hq
    refine ⟨?_, ?_, rfl⟩
    · show heldQ [-c - 1, -d - 1] [q * ((-1 : Int) : Rat), r * ((-1 : Int) : Rat)] = heldQ [c, d] [q, r]
      rw [held_two, held_two, out_mir, out_mir]
    · show [dotQ [a, b] [q * ((-1 : Int) : Rat), r * ((-1 : Int) : Rat)] + g * ((-1 : Int) : Rat), dotQ [e, f] [q * ((-1 : Int) : Rat), r * ((-1 : Int) : Rat)] + i * ((-1 : Int) : Rat)] = [(dotQ [a, b] [q, r] + g) * ((-1 : Int) : Rat), (dotQ [e, f] [q, r] + i) * ((-1 : Int) : Rat)]
      simp only [dot_two, neg_one]
      congr 1
      · grind
      · congr 1
        grind
theorem alike_of {n : Nat} {ps : List Pc} {F : Pc → Pc} {o : Option (List Int)} (h : ∀ p ∈ ps, StepOk n F o p) : Alike n ps (ps.map F) o := by
  intro qs ns hq
  have go : ∀ (ns : List Nat) (qs : List Rat), qs.length = n → stepsQ (ps.map F) (thereQ qs o) ns = (stepsQ ps qs ns).map fun q => thereQ q o := by
    intro ns
    induction ns with
    | nil => intro qs _; rfl
    | cons i ns ih =>
      intro qs hq
      unfold stepsQ
      rw [List.getElem?_map]
      cases hp : ps[i]? with
      | none => rfl
      | some p =>
        obtain ⟨g1, g2, g3⟩ := h p (List.mem_of_getElem? hp) qs hq
        simp only [Option.map_some]
        rw [g1, g2]
        by_cases hh : heldQ p.corner qs = true
        · rw [if_pos hh, if_pos hh, List.map_cons, ih _ g3]
        · rw [if_neg hh, if_neg hh]; rfl
  unfold runQ
  rw [List.map_cons, go ns qs hq]
theorem there_back_p {n : Nat} {p : Pc} {s : List Int} (h : p.Wd n) (h1 : 1 ≤ n) (h2 : n ≤ 2) (hs : s.length = n) : movedQ (movedQ p s) (s.map fun i => -i) = p := by
  have hn : n = 1 ∨ n = 2 := by omega
  rcases hn with rfl | rfl
  · obtain ⟨c, a, b, rfl⟩ := h.one
    obtain ⟨s0, rfl⟩ := len1 hs
    show Pc.mk [c + s0 + -s0] [[a]] [b + (s0 : Rat) - dotQ [a] [(s0 : Rat)] + ((-s0 : Int) : Rat) - dotQ [a] [((-s0 : Int) : Rat)]] = Pc.mk [c] [[a]] [b]
    rw [Rat.intCast_neg, show c + s0 + -s0 = c by omega]
    simp only [dot_one]
    congr 2
    grind
  · obtain ⟨c, d, a, b, e, f, g, i, rfl⟩ := h.two
    obtain ⟨s0, s1, rfl⟩ := len2 hs
    show Pc.mk [c + s0 + -s0, d + s1 + -s1] [[a, b], [e, f]] [g + (s0 : Rat) - dotQ [a, b] [(s0 : Rat), (s1 : Rat)] + ((-s0 : Int) : Rat) - dotQ [a, b] [((-s0 : Int) : Rat), ((-s1 : Int) : Rat)], i + (s1 : Rat) - dotQ [e, f] [(s0 : Rat), (s1 : Rat)] + ((-s1 : Int) : Rat) - dotQ [e, f] [((-s0 : Int) : Rat), ((-s1 : Int) : Rat)]] = Pc.mk [c, d] [[a, b], [e, f]] [g, i]
    rw [Rat.intCast_neg, Rat.intCast_neg, show c + s0 + -s0 = c by omega, show d + s1 + -s1 = d by omega]
    simp only [dot_two]
    congr 2
    · grind
    · congr 1
      grind
theorem mir_mir (p : Pc) : mirQ (mirQ p) = p := by
  obtain ⟨cs, rs, ss⟩ := p
  unfold mirQ
  simp only [List.map_map]
  congr 1
  · conv => rhs; rw [← List.map_id cs]
    exact List.map_congr_left fun c _ => by show -(-c - 1) - 1 = c; omega
  · conv => rhs; rw [← List.map_id ss]
    exact List.map_congr_left fun q _ => by show q * ((-1 : Int) : Rat) * ((-1 : Int) : Rat) = q; rw [neg_one]; grind
theorem wd_moved {n : Nat} {p : Pc} {s : List Int} (h : p.Wd n) (hs : s.length = n) : (movedQ p s).Wd n := by
  refine ⟨?_, h.r, h.e, ?_⟩
  · show (List.map _ _).length = n
    rw [List.length_map, List.length_zip, h.c, hs, Nat.min_self]
  · show (List.map _ _).length = n
    rw [List.length_map, List.length_zip, List.length_map, List.length_zip, h.s, hs, h.r, Nat.min_self, Nat.min_self]
theorem wd_mir {n : Nat} {p : Pc} (h : p.Wd n) : (mirQ p).Wd n := ⟨by show (List.map _ _).length = n; rw [List.length_map]; exact h.c, h.r, h.e, by show (List.map _ _).length = n; rw [List.length_map]; exact h.s⟩
theorem nodup_map {α β : Type} {l : List α} {F : α → β} (G : β → α) (h : ∀ a ∈ l, G (F a) = a) (hn : l.Nodup) : (l.map F).Nodup := by
  rw [List.nodup_iff_pairwise_ne, List.pairwise_map]
  refine List.Pairwise.imp_of_mem (fun {a b} ha hb hne e => hne ?_) (List.nodup_iff_pairwise_ne.mp hn)
  rw [← h a ha, e, h b hb]
theorem map_map_id {α β : Type} {l : List α} {F : α → β} {G : β → α} (h : ∀ a ∈ l, G (F a) = a) : (l.map F).map G = l := by
  rw [List.map_map]
  conv => rhs; rw [← List.map_id l]
  exact List.map_congr_left fun a ha => h a ha

theorem near_far (c : Int) : near c = !farC c := by
  unfold near within farC
  rw [Bool.eq_iff_iff]
  simp only [Bool.and_eq_true, decide_eq_true_eq, Bool.not_eq_true', decide_eq_false_iff_not]
  omega
theorem small_wide (q : Rat) : small q = !wideN q := by
  unfold small wideN
  rw [Bool.eq_iff_iff]
  simp only [Bool.and_eq_true, decide_eq_true_eq, Bool.not_eq_true', Bool.or_eq_false_iff, decide_eq_false_iff_not]
  omega
theorem all_not_any {α : Type} (l : List α) (f g : α → Bool) (h : ∀ a, f a = !g a) : (l.map f).all id = !l.any g := by
  induction l with
  | nil => rfl
  | cons a l ih => rw [List.map_cons, List.all_cons, List.any_cons, ih, h a, Bool.not_or]; rfl
theorem Lo.small {q : Rat} (h : Lo q) : T12.small q = true := by
  unfold T12.small
  simp only [Bool.and_eq_true, decide_eq_true_eq]
  exact ⟨Nat.le_trans h.1 (by decide), Nat.le_trans h.2 (by decide)⟩
/-- rows are small: good is standing -/
theorem good_stand {p : Pc} (h : ∀ r ∈ p.rows, ∀ a ∈ r, Lo a) : goodPc p = standP p := by
  unfold goodPc standP
  rw [all_not_any _ _ _ near_far, all_not_any _ _ _ small_wide]
  have : (p.rows.map fun r => (r.map T12.small).all id).all id = true := all_map_true fun r hr => all_map_true fun a ha => (h r hr a ha).small
  rw [this, Bool.and_true]
theorem good_all {ps : List Pc} (h : ∀ p ∈ ps, ∀ r ∈ p.rows, ∀ a ∈ r, Lo a) : ps.all goodPc = standsQ ps := by
  unfold standsQ
  induction ps with
  | nil => rfl
  | cons p ps ih => rw [List.all_cons, List.all_cons, good_stand (h p List.mem_cons_self), ih fun x hx => h x (List.mem_cons_of_mem _ hx)]
/-- a number with under 60 and not too great is narrow -/
theorem wi_small {N : Nat} {q : Rat} (h : Wi 60 N q) (hs : T12.small q = true) : Wi 60 (60 * 1000000) q := by
  obtain ⟨h0, k, rfl, hk⟩ := h
  refine ⟨h0, k, rfl, ?_⟩
  unfold T12.small at hs
  simp only [Bool.and_eq_true, decide_eq_true_eq] at hs
  have e1 := mk_num (a := k) h0
  have hdv : ((gcdI k 60 : Nat) : Int) ∣ k := Int.natAbs_dvd_natAbs.mp (by rw [Int.natAbs_natCast]; exact Nat.gcd_dvd_right 60 k.natAbs)
  have hg := gcdI_pos (a := k) h0
  have hd : gcdI k 60 ≤ 60 := gcdI_le h0
  rw [e1] at hs
  obtain ⟨c, hc⟩ := hdv
  generalize gcdI k 60 = g at hc hg hd hs
  subst hc
  rw [Int.mul_ediv_cancel_left _ (by omega)] at hs
  rw [Int.natAbs_mul, Int.natAbs_natCast]
  exact Nat.mul_le_mul hd hs.1
theorem Dr.lo {p : Pc} {n : Nat} (h : Dr p n) : ∀ r ∈ p.rows, ∀ a ∈ r, Lo a := h.r
theorem wi_moved {n : Nat} {p : Pc} {s : List Int} (h : Dr p n) (hs : ∀ i ∈ s, i.natAbs ≤ 2 ^ 30) : ∃ N, ∀ q ∈ (movedQ p s).shift, Wi 60 N q := by
  refine ⟨360 + 2 ^ 30 * 60 + n * (360 * 2 ^ 30), fun q hq => ?_⟩
  obtain ⟨z, hz, rfl⟩ := List.mem_map.mp hq
  obtain ⟨y, hy, e⟩ := List.mem_map.mp (mem_zip_l hz)
  have w1 : Wi 60 (360 + 2 ^ 30 * 60) z.1 := by
    rw [← e]
    exact ((h.s _ (mem_zip_l hy)).wi).add (Wi.int (by decide) (hs _ (mem_zip_r hy)))
  have hrow := mem_zip_r hz
  have w2 : Wi 60 (n * (360 * 2 ^ 30)) (dotQ z.2 (s.map fun i : Int => (i : Rat))) := by
    have := dot_wi (D1 := 60) (N1 := 360) (D2 := 1) (N2 := 2 ^ 30) (by decide) (by decide) (r := z.2) (qs := s.map fun i : Int => (i : Rat)) (fun a ha => (h.r _ hrow a ha).wi) (fun b hb => by
      obtain ⟨i, hi, rfl⟩ := List.mem_map.mp hb
      have := Wi.int (D := 1) (by decide) (hs i hi)
      rwa [Nat.mul_one] at this)
    exact this.mono (Nat.mul_le_mul_right _ (Nat.le_trans (zip_len_le _ _) (Nat.le_of_eq (h.w.e _ hrow))))
  rw [Rat.sub_eq_add_neg]
  exact w1.add w2.neg
theorem standP_c {p : Pc} (h : standP p = true) : (∀ c ∈ p.corner, c.natAbs ≤ 1000) ∧ ∀ q ∈ p.shift, T12.small q = true := by
  unfold standP at h
  simp only [Bool.and_eq_true, Bool.not_eq_true', List.any_eq_false] at h
  refine ⟨fun c hc => ?_, fun q hq => ?_⟩
  · have := h.1 c hc
    unfold farC at this
    simp only [decide_eq_true_eq] at this
    omega
  · rw [small_wide]
    have := h.2 q hq
    simpa using this
theorem pk_moved {n : Nat} {p : Pc} {s : List Int} (h : Dr p n) (hn : n ≤ 2) (hl : s.length = n) (hs : ∀ i ∈ s, i.natAbs ≤ 2 ^ 30) (hst : standP (movedQ p s) = true) : (movedQ p s).In 60 (60 * 1000000) := by
  obtain ⟨h1, h2⟩ := standP_c hst
  obtain ⟨N, hN⟩ := wi_moved h hs
  have hw := wd_moved h.w hl
  refine ⟨fun c hc => ?_, fun r hr => ⟨by rw [hw.e r hr]; exact hn, fun a ha => ((h.r r hr a ha).wi).mono (by decide)⟩, fun q hq => wi_small (hN q hq) (h2 q hq), by rw [hw.c, hw.r, hw.s]; exact ⟨hn, hn, hn⟩⟩
  exact Nat.lt_of_le_of_lt (h1 c hc) (Nat.lt_of_lt_of_le (by decide : 1000 < 2 ^ 10) (Nat.pow_le_pow_right (by decide) (by decide)))
theorem mir_in {n : Nat} {p : Pc} (h : Dr p n) (hn : n ≤ 2) : (mirQ p).In 60 360 := by
  have hw := wd_mir h.w
  refine ⟨fun c hc => ?_, fun r hr => ⟨by rw [hw.e r hr]; exact hn, fun a ha => (h.r r hr a ha).wi⟩, fun q hq => ?_, by rw [hw.c, hw.r, hw.s]; exact ⟨hn, hn, hn⟩⟩
  · obtain ⟨y, hy, rfl⟩ := List.mem_map.mp hc
    have := h.c y hy
    exact Nat.lt_of_le_of_lt (show (-y - 1).natAbs ≤ 3 by omega) (Nat.lt_of_lt_of_le (by decide : 3 < 2 ^ 2) (Nat.pow_le_pow_right (by decide) (by decide)))
  · obtain ⟨y, hy, rfl⟩ := List.mem_map.mp hq
    have := ((h.s y hy).wi).neg
    rwa [show y * ((-1 : Int) : Rat) = -y by rw [neg_one]; grind]
theorem small_of_wi {q : Rat} (h : Wi 60 360 q) : T12.small q = true := by
  unfold T12.small
  simp only [Bool.and_eq_true, decide_eq_true_eq]
  exact ⟨Nat.le_trans h.num (by decide), Nat.le_trans h.den (by decide)⟩
theorem stand_of {p : Pc} (h1 : ∀ c ∈ p.corner, c.natAbs ≤ 1000) (h2 : ∀ q ∈ p.shift, Wi 60 360 q) : standP p = true := by
  unfold standP
  simp only [Bool.and_eq_true, Bool.not_eq_true', List.any_eq_false]
  refine ⟨fun c hc => ?_, fun q hq => ?_⟩
  · have := h1 c hc
    unfold farC
    simp only [decide_eq_true_eq]
    omega
  · have := small_of_wi (h2 q hq)
    rw [small_wide] at this
    simpa using this
theorem mir_stand {n : Nat} {p : Pc} (h : Dr p n) (hn : n ≤ 2) : standP (mirQ p) = true :=
  stand_of (fun c hc => by
    obtain ⟨y, hy, rfl⟩ := List.mem_map.mp hc
    have := h.c y hy
    omega) (mir_in h hn).s
theorem dr_stand {n : Nat} {p : Pc} (h : Dr p n) (hn : n ≤ 2) : standP p = true := stand_of (fun c hc => Nat.le_trans (h.c c hc) (by decide)) (h.pin hn).s
end T12
end
section
set_option Elab.async false
set_option linter.all false
set_option maxRecDepth 100000
set_option maxHeartbeats 4000000
set_option exponentiation.threshold 5000
namespace PySem
namespace T12X
open PySem.W PySem.Calls PyProof.Rows
section
variable {prog : Program} {w : World} {A : Around} {E : Value → Shared → Prop} {h : Heap} {g : Array GenState} {d : Drawn} {t : Nat} {os : OsState}
variable {nm q : Str} {C N : Addr} {bs bm : List Value} {hdct : Bool} {sn : List Str} {sub : List Value} {ab : Bool} {col : Option Bool} {dd : Option Addr} {k0 k1 k2 k3 k5 : Option Value}
/-- ValueError.__init__ bound to an exception, called -/
theorem call_bwV {u e t0 : Addr} {rest : List Value} {Q : Value → Shared → Prop}
    (hC : h.get? C = some (excClassObj nm q C N bs bm hdct sn sub ab col dd k0 k1 k2 k3 k5 "ValueError.__new__")) (he : h.get? e = some (HandSPX.excO C t0)) (hu : h.get? u = some (kxs_mw "ValueError.__init__" e)) (hrest : rest.length ≤ sizeLine)
    (hq : ∀ h' t1, (∀ b o, b ≠ e → h.get? b = some o → h'.get? b = some o) → h'.get? e = some (HandSPX.excO C t1) → Q .none ⟨h', g, d, t, os⟩) :
    wpAny (model prog w) A (call (.ref u) rest) Q E ⟨h, g, d, t, os⟩ := by
  refine wpAny_call (codeAny_of_tree ?_)
  show wpAny _ A.in1 (callAny (.ref u) ⟨rest, []⟩) _ _ _
  simp only [callAny]
  refine wpAny_bind (wpAny_load hu ?_)
  simp only [kxs_mw, show (Value.type "method-wrapper" == Value.type "method" || Value.type "method-wrapper" == Value.type "builtin_function_or_method" || Value.type "method-wrapper" == Value.type "method-wrapper") = true by decide, if_true]
  refine KFB.if_so (by decide) ?_
  refine wpAny_bind (ESX.check_bound F.excBase_ValueError hC he rfl ?_)
  refine wpAny_bind (wpAny_pure (wpAny_pure ?_))
  refine ⟨Code.quiet_builtin _ (by decide +kernel), codeAny_builtin F.excBase_ValueError.initEntry ?_⟩
  rw [Around.under_plainId F.excBase_ValueError.init.plain _]
  wp_walk
  refine hq _ h.objs.size (fun b o hb ho => ?_) ?_
  · rw [Heap.get?_update_other _ _ (Ne.symm hb)]
    exact Heap.get?_push_of_some _ ho
  · rw [Heap.get?_update_self _ (Heap.get?_push_of_some _ he) rfl]
    rfl
end
end T12X
end PySem
namespace T12
open NdefX ClX StX
open PySem PySem.Spec PyProof.Rows L2
section
variable {P : Program} {w : World} {K : PySem.W.Frag} {mg : Str → Option Value} {base : Heap} {N ps : List Str} {st : Stmt} {qual : Str} {f D cda cc : Addr}
/-- super().__init__(e, ..), ValueError's, in the __init__ of an own exception -/
theorem supx_stmt {A : Around} {outer : List Env} {s0 : Shared} {H0 : Hp} {E : XK} {s : Shared} {σ : L2.St} {H : Hp} {pins : List (Addr × Obj)} {x C : Addr} {p0 p1 p2 p3 p4 : Pos} {ar : Arg} {ars : List Arg} {e : Expr} {es : List Expr} {ta : TA} {Dn : Ends} {pl : Sem Bool}
    (T : SupAt P K mg st qual f D cda cc) (TX : OexC K C) (I : Inv (SX P w K mg base N st qual f cda cc A outer s0 H0 E) pins σ H s) (hpar : (C8.fnArgs st).posonlyargs ++ (C8.fnArgs st).args = ar :: ars) (hN : N[0]? = some ar.arg) (hσ : σ[0]? = some (some (.ref x)))
    (hk : (C8.fnScope st).kind = .function) (hks : (C8.fnScope st).names.lookup ("super" : Str) = some .globalImplicit) (hkc : (C8.fnScope st).names.lookup ("__class__" : Str) = some .free) (hka : (C8.fnScope st).names.lookup ar.arg = some .local)
    (hx : H x = some (exo x C none)) (hsub : PySem.W.mroIn K C (.ref D) = some true) (ho : PySem.W.nsIn K cStatics "thirdparty.any" = some none)
    (hm : PySem.W.ks_superIn K C D "__init__" = some (some (.builtin "ValueError.__init__"))) (hV : PySem.W.subIn K (.ref C) (.type "ValueError") = some true)
    (ha : PA (SX P w K mg base N st qual f cda cc A outer s0 H0 E) (e :: es) ta)
    (h : ta σ H fun vs H1 => vs.length ≤ 1000 ∧ H1 x = some (exo x C none) ∧ Dn.nx σ H1)
    (he : eval (.Call (.Attribute (.Call (.Name "super" p0) [] [] p1) "__init__" p2) (e :: es) [] p3) (SX P w K mg base N st qual f cda cc A outer s0 H0 E).env = (do
      let ov ← attributeBase (.Call (.Name "super" p0) [] [] p1) "__init__" (SX P w K mg base N st qual f cda cc A outer s0 H0 E).env (eval (.Call (.Name "super" p0) [] [] p1) (SX P w K mg base N st qual f cda cc A outer s0 H0 E).env)
      standAt p2.atName
      let (g, first) ← holding [ov] (getMethod ov "__init__" pl)
      callWith p3 g first (backTo p3 (starEach (e :: es) (SX P w K mg base N st qual f cda cc A outer s0 H0 E).env)) []) := by rfl)
    (hi : interactive (SX P w K mg base N st qual f cda cc A outer s0 H0 E).env = false := by rfl) (hsw : swapsWith (.Call (.Attribute (.Call (.Name "super" p0) [] [] p1) "__init__" p2) (e :: es) [] p3) none p4.line (SX P w K mg base N st qual f cda cc A outer s0 H0 E).env = pure false := by rfl)
    (hst : starEach (e :: es) (SX P w K mg base N st qual f cda cc A outer s0 H0 E).env = (false, eval e (SX P w K mg base N st qual f cda cc A outer s0 H0 E).env) :: starEach es (SX P w K mg base N st qual f cda cc A outer s0 H0 E).env := by rfl) (hpl : (backTo p3 (starEach es (SX P w K mg base N st qual f cda cc A outer s0 H0 E).env)).any (·.1) = false := by rfl) :
    _root_.PySem.wpAt (model P w) (SX P w K mg base N st qual f cda cc A outer s0 H0 E).A (.func (C8.fnBody st) (SX P w K mg base N st qual f cda cc A outer s0 H0 E).env)
      (exec (.Expr (.Call (.Attribute (.Call (.Name "super" p0) [] [] p1) "__init__" p2) (e :: es) [] p3) p4) (SX P w K mg base N st qual f cda cc A outer s0 H0 E).env) (SP (SX P w K mg base N st qual f cda cc A outer s0 H0 E) pins Dn) (SX P w K mg base N st qual f cda cc A outer s0 H0 E).xe s := by
  refine ks_wpAt_Expr_any ?_ hi hsw
  refine ks_wpAt_MethodCall (pl := pl) ?_ he
  obtain ⟨t0, hox⟩ := exo_at I.hok hx
  have J : PySem.W.InstAt s.heap x { cls := .ref C, dict := none, data := .fields #[.ref t0, .none, .none, .none, .bool false, .none] } C none := ⟨hox, rfl, rfl, trivial⟩
  refine sup_base T I hpar hN hσ hk hks hkc hka J hsub (by decide) fun so s1 I1 J1 => ?_
  cases hcls : PySem.W.clsIn K C with
  | none => unfold PySem.W.ks_superIn at hm; rw [hcls] at hm; cases hm
  | some cd =>
    unfold PySem.W.ks_superIn at hm
    rw [hcls] at hm
    have X1 : K.In s1.heap := I1.kIn
    have hmro : PySem.W.Looks (model P w) s1.heap (mroOf (.ref C)) cd.mro := fun A Q E s k q => wpAny_bind ((PySem.W.looks_clsIn X1 hcls) A _ E s k (wpAny_pure q))
    have hI : PySem.W.Looks (model P w) s1.heap (isInstance (.ref x) (.type "ValueError")) true := J1.type.andThen (PySem.W.looks_subIn X1 hV)
    refine PySem.W.kxs_getMethod (h := s1.heap) (g := s1.gens) (d := s1.drawn) (t := s1.toks) (os := s1.os) PySem.W.kxs_ValueError (pin_at I1) (PySem.W.looks_opaque X1 ho) (l₀ := cd.mro) hmro rfl X1 hm hI (PySem.W.ks_ne X1 J1 hcls) (by decide) ?_
    have I2 := pin_new (t' := s1.toks + 1) (o := PySem.W.kxs_mw "ValueError.__init__" x) (unpin I1) (h' := s1.heap.push (PySem.W.kxs_mw "ValueError.__init__" x)) (fun b u e => Heap.get?_push_of_some _ e) (Nat.le_refl _) (Heap.get?_push_at rfl rfl) (fun v z => nomatch z)
    rw [hst]
    refine PySem.W.kxs_callWith (i := "ValueError.__init__") (x := x) (by show (false || (backTo p3 (starEach es _)).any (·.1)) = false; rw [hpl]; rfl) ?_
    refine PySem.Calls.evalArgs_plain ?_
    have hrun := ha.run p3 _ _ σ H _ I2 h
    rw [hst] at hrun
    refine thn hrun fun us s3 ⟨vs, H2, I3, rv, hlen, hx2, q2⟩ => ⟨pin_at I3, ?_⟩
    obtain ⟨nm, q, N', bs, bm, sn, sub, ab, col, dd, k0, k1, k2, k3, k5, hC, hbm⟩ := TX.cls
    obtain ⟨t1, ho2⟩ := exo_at I3.hok hx2
    have hul : us.length ≤ sizeLine := by rw [← Paired.length rv, sizeLine_eq]; omega
    obtain ⟨hp3, g3, d3, tk3, os3⟩ := s3
    refine PySem.T12X.call_bwV (I3.kIn _ _ hC) ho2 (pin_at I3) hul fun h' t2 k hx' => ?_
    have J3 := I3.write (t' := tk3) (x := x) (e := x) (o := exo x C none) (by rw [hx2]; exact True.intro) (.inl rfl) k ⟨_, hx'⟩ (exo_ok hx')
    have eu : upd H2 x (exo x C none) = H2 := by
      funext b
      by_cases hb : b = x
      · rw [hb, upd_same, hx2]
      · rw [upd_ne hb]
    rw [eu] at J3
    exact ⟨σ, H2, unpin J3, q2⟩
end
end T12
end
section
set_option Elab.async false
set_option linter.all false
set_option maxRecDepth 100000
set_option maxHeartbeats 4000000
set_option exponentiation.threshold 5000
namespace T12
open NdefX ClX StX
open PySem PySem.Spec PyProof.Rows L2
/-! ### the __init__ of an own exception: super().__init__(f"..{part}"), self.part = part -/
structure ExT (P : Program) (K : PySem.W.Frag) (mg : Str → Option Value) (cn : Str) (st : Stmt) (qual : Str) (f C cda cc : Addr) : Prop where
  at_ : SupAt P K mg st qual f C cda cc
  oex : OexC K C
  sub : PySem.W.mroIn K C (.ref C) = some true
  any : PySem.W.nsIn K cStatics "thirdparty.any" = some none
  find : PySem.W.ks_superIn K C C "__init__" = some (some (.builtin "ValueError.__init__"))
  vE : PySem.W.subIn K (.ref C) (.type "ValueError") = some true
  nP : PySem.W.findIn K (.ref C) "part" = some none
  ini : PySem.W.findIn K (.ref C) "__init__" = some (some (.ref f))
  ty : PySem.W.typeIn K (.ref f) = some (.type "function")
  mgC : mg cn = some (.ref C)
/-- the fresh exception at p gets its dict -/
def spExI (C : Addr) : Sp := fun vs H Q _ => ∃ (p : Addr) (y : Str), vs = [.ref p, .str y] ∧ y.length ≤ 1000 ∧ H p = some (exo p C none) ∧ ∀ dx, H dx = none → dx ≠ p → Q .non (upd (upd H dx (exd dx [("part", .str y)])) p (exo p C (some dx)))
abbrev nEx : List Str := ["self", "part", "__class__"]
section
variable {P : Program} {w : World} {K : PySem.W.Frag} {mg : Str → Option Value} {base : Heap}
abbrev sBadNumI : Stmt := clsS 3 0
abbrev sBadMacI : Stmt := clsS 5 0
abbrev sMisfitI : Stmt := clsS 7 0
theorem scBadNumI : NScope nEx ["self", "part"] ["__class__"] (C8.fnScope sBadNumI) := nscope_by (by decide +kernel)
theorem scBadMacI : NScope nEx ["self", "part"] ["__class__"] (C8.fnScope sBadMacI) := nscope_by (by decide +kernel)
theorem scMisfitI : NScope nEx ["self", "part"] ["__class__"] (C8.fnScope sMisfitI) := nscope_by (by decide +kernel)
theorem fit_pre {a y : Str} (ha : a.length ≤ 1000) (hy : y.length ≤ 1000) : (Str.empty ++ a ++ y).length ≤ sizeLine := by
  rw [strLen_append, strLen_append, sizeLine_eq]
  have : Str.empty.length = 0 := rfl
  omega
theorem fit_pre1 {a : Str} (ha : a.length ≤ 1000) : (Str.empty ++ a).length ≤ sizeLine := by
  rw [strLen_append, sizeLine_eq]
  have : Str.empty.length = 0 := rfl
  omega
theorem fnr_badMac {f C cda cc : Addr} (T : ExT P K mg "BadMachine" sBadMacI "BadMachine.__init__" f C cda cc)
    (hb : ∀ (kV doc pm ct : Value) (an : Option Addr) (us : List Value), us.length = (["self", "part"] : List Str).length → bindArgs (PySem.W.ksFn "__init__" "BadMachine.__init__" (C8.fnArgs sBadMacI) (C8.fnBody sBadMacI) (C8.fnScope sBadMacI) .none kV doc pm an (.ref cda) ct cc) ⟨us, []⟩ = pure ((["self", "part"] : List Str).zip us)) : FnR P w K mg base CX0 1 f (spExI C) := by
  refine fnr_cls (N := nEx) (k := 0) T.at_ scBadMacI hb (fun vs H Q E ⟨p, y, ev, _⟩ => by rw [ev]; rfl) fun A outer s H vs Q E s1 hr hsp I => ?_
  obtain ⟨p, y, ev, hy, hp, hq⟩ := hsp
  subst ev
  let X := SX P w K mg base nEx sBadMacI "BadMachine.__init__" f cda cc A outer s H E
  have second : PSs X (List.drop 1 (C8.fnBody sBadMacI)) _ := pss_one (ps_ost (pv 0) (pv 1) rfl)
  refine ks_wpAt_execs_cons (_root_.PySem.wpAt_mono (supx_stmt (Dn := { nx := fun σ' H' => cSs X (List.drop 1 (C8.fnBody sBadMacI)) { nx := fun _ H' => Q .non H', rt := Q } σ' H', rt := fun _ _ => False }) T.at_ T.oex I rfl rfl rfl rfl rfl rfl rfl hp T.sub T.any T.find T.vE (pa_cons (pe_joined (PJ.cons pe_str (PJ.cons (pe_fmt (pv 1)) PJ.nil))) pa_nil) ?_) (fun fl s' hs => ?_) fun e s' hs => hs)
  · refine ⟨_, rfl, fit_pre1 (by decide +kernel), .str y, rfl, .inl ⟨y, rfl, by rw [sizeLine_eq]; omega, _, rfl, fit_pre (by decide +kernel) hy, (by show 1 ≤ 1000; decide), hp, ?_⟩⟩
    exact cSs_of second ⟨_, rfl, _, rfl, p, C, rfl, T.oex, T.nP, .inl ⟨hp, hq⟩⟩
  · cases fl with
    | next =>
      obtain ⟨σ', H', J2, hs⟩ := hs
      exact _root_.PySem.wpAt_of_wpAny (hs [] s' J2)
    | ret u => obtain ⟨_, _, _, _, _, z⟩ := hs; exact z.elim
    | brk => obtain ⟨_, _, _, z⟩ := hs; exact z.elim
    | cont => obtain ⟨_, _, _, z⟩ := hs; exact z.elim
theorem fnr_badNum {f C cda cc : Addr} (T : ExT P K mg "BadNumber" sBadNumI "BadNumber.__init__" f C cda cc)
    (hb : ∀ (kV doc pm ct : Value) (an : Option Addr) (us : List Value), us.length = (["self", "part"] : List Str).length → bindArgs (PySem.W.ksFn "__init__" "BadNumber.__init__" (C8.fnArgs sBadNumI) (C8.fnBody sBadNumI) (C8.fnScope sBadNumI) .none kV doc pm an (.ref cda) ct cc) ⟨us, []⟩ = pure ((["self", "part"] : List Str).zip us)) : FnR P w K mg base CX0 1 f (spExI C) := by
  refine fnr_cls (N := nEx) (k := 0) T.at_ scBadNumI hb (fun vs H Q E ⟨p, y, ev, _⟩ => by rw [ev]; rfl) fun A outer s H vs Q E s1 hr hsp I => ?_
  obtain ⟨p, y, ev, hy, hp, hq⟩ := hsp
  subst ev
  let X := SX P w K mg base nEx sBadNumI "BadNumber.__init__" f cda cc A outer s H E
  have second : PSs X (List.drop 1 (C8.fnBody sBadNumI)) _ := pss_one (ps_ost (pv 0) (pv 1) rfl)
  refine ks_wpAt_execs_cons (_root_.PySem.wpAt_mono (supx_stmt (Dn := { nx := fun σ' H' => cSs X (List.drop 1 (C8.fnBody sBadNumI)) { nx := fun _ H' => Q .non H', rt := Q } σ' H', rt := fun _ _ => False }) T.at_ T.oex I rfl rfl rfl rfl rfl rfl rfl hp T.sub T.any T.find T.vE (pa_cons (pe_joined (PJ.cons pe_str (PJ.cons (pe_fmt (pv 1)) PJ.nil))) pa_nil) ?_) (fun fl s' hs => ?_) fun e s' hs => hs)
  · refine ⟨_, rfl, fit_pre1 (by decide +kernel), .str y, rfl, .inl ⟨y, rfl, by rw [sizeLine_eq]; omega, _, rfl, fit_pre (by decide +kernel) hy, (by show 1 ≤ 1000; decide), hp, ?_⟩⟩
    exact cSs_of second ⟨_, rfl, _, rfl, p, C, rfl, T.oex, T.nP, .inl ⟨hp, hq⟩⟩
  · cases fl with
    | next =>
      obtain ⟨σ', H', J2, hs⟩ := hs
      exact _root_.PySem.wpAt_of_wpAny (hs [] s' J2)
    | ret u => obtain ⟨_, _, _, _, _, z⟩ := hs; exact z.elim
    | brk => obtain ⟨_, _, _, z⟩ := hs; exact z.elim
    | cont => obtain ⟨_, _, _, z⟩ := hs; exact z.elim
theorem fnr_misfit {f C cda cc : Addr} (T : ExT P K mg "Misfit" sMisfitI "Misfit.__init__" f C cda cc)
    (hb : ∀ (kV doc pm ct : Value) (an : Option Addr) (us : List Value), us.length = (["self", "part"] : List Str).length → bindArgs (PySem.W.ksFn "__init__" "Misfit.__init__" (C8.fnArgs sMisfitI) (C8.fnBody sMisfitI) (C8.fnScope sMisfitI) .none kV doc pm an (.ref cda) ct cc) ⟨us, []⟩ = pure ((["self", "part"] : List Str).zip us)) : FnR P w K mg base CX0 1 f (spExI C) := by
  refine fnr_cls (N := nEx) (k := 0) T.at_ scMisfitI hb (fun vs H Q E ⟨p, y, ev, _⟩ => by rw [ev]; rfl) fun A outer s H vs Q E s1 hr hsp I => ?_
  obtain ⟨p, y, ev, hy, hp, hq⟩ := hsp
  subst ev
  let X := SX P w K mg base nEx sMisfitI "Misfit.__init__" f cda cc A outer s H E
  have second : PSs X (List.drop 1 (C8.fnBody sMisfitI)) _ := pss_one (ps_ost (pv 0) (pv 1) rfl)
  refine ks_wpAt_execs_cons (_root_.PySem.wpAt_mono (supx_stmt (Dn := { nx := fun σ' H' => cSs X (List.drop 1 (C8.fnBody sMisfitI)) { nx := fun _ H' => Q .non H', rt := Q } σ' H', rt := fun _ _ => False }) T.at_ T.oex I rfl rfl rfl rfl rfl rfl rfl hp T.sub T.any T.find T.vE (pa_cons (pe_joined (PJ.cons pe_str (PJ.cons (pe_fmt (pv 1)) PJ.nil))) pa_nil) ?_) (fun fl s' hs => ?_) fun e s' hs => hs)
  · refine ⟨_, rfl, fit_pre1 (by decide +kernel), .str y, rfl, .inl ⟨y, rfl, by rw [sizeLine_eq]; omega, _, rfl, fit_pre (by decide +kernel) hy, (by show 1 ≤ 1000; decide), hp, ?_⟩⟩
    exact cSs_of second ⟨_, rfl, _, rfl, p, C, rfl, T.oex, T.nP, .inl ⟨hp, hq⟩⟩
  · cases fl with
    | next =>
      obtain ⟨σ', H', J2, hs⟩ := hs
      exact _root_.PySem.wpAt_of_wpAny (hs [] s' J2)
    | ret u => obtain ⟨_, _, _, _, _, z⟩ := hs; exact z.elim
    | brk => obtain ⟨_, _, _, z⟩ := hs; exact z.elim
    | cont => obtain ⟨_, _, _, z⟩ := hs; exact z.elim
end
end T12
end
section
set_option Elab.async false
set_option linter.all false
set_option maxRecDepth 100000
set_option maxHeartbeats 4000000
set_option exponentiation.threshold 5000
namespace T12
open NdefX ClX StX
open PySem PySem.Spec PyProof.Rows L2
/-! ### defs that raise -/
theorem PS.nox {X : Cx} {st : Stmt} {t : TS} (h : PS X.nox st t) : PS X st t := ⟨fun pins s σ H D I hw =>
  wpAny_mono (h.run pins s σ H D (I.wish _) hw) (fun _ _ q => q.unwish) fun _ _ z => False.elim z⟩
theorem PA.nox {X : Cx} {es : List Expr} {t : TA} (h : PA X.nox es t) : PA X es t := ⟨fun pos pins s σ H Q I hw =>
  wpAny_mono (h.run pos pins s σ H Q (I.wish _) hw) (fun _ _ ⟨v, H', I', r, q⟩ => ⟨v, H', I'.unwish, r, q⟩) fun _ _ z => False.elim z⟩
/-- what is wanted of an exception of class C whose part is y -/
def RaisesK (E : XK) (H : Hp) (μ : Mu) (C : Addr) (y : Str) : Prop := ∀ d H', Ex (hid H μ) (hid H' μ) → MuOk μ H' → H' d = some (.xd [("part", .str y)]) → E (.ref C) (some d) H'
theorem RaisesK.from {E : XK} {H H1 : Hp} {μ : Mu} {C : Addr} {y : Str} (e : Ex (hid H μ) (hid H1 μ)) (h : RaisesK E H μ C y) : RaisesK E H1 μ C y := fun d H' e' => h d H' (e.trans e')
/-- a promise to raise -/
def spX (K : PySem.W.Frag) (n : Nat) (dsp : List SV → Mu → Addr → Str → Prop) : Sp := fun vs H _ E => ∃ (xs : List SV) (μ : Mu) (C : Addr) (y : Str), xs.length = n ∧ MuOk μ H ∧ RvAll K (hid H μ) xs vs ∧ dsp xs μ C y ∧ RaisesK E H μ C y
structure CalX (P : Program) (w : World) (K : PySem.W.Frag) (mg : Str → Option Value) (base : Heap) (k : Nat) (x : Str) (sp : Sp) (dvs : List V) : Prop where
  ex : ∃ (f : Addr) (fd : FuncData) (ps : List Str) (ds : List Value), FnOk P w K mg base (CX P w) k f fd ps sp ∧ mg x = some (.ref f) ∧ PySem.W.keepIn K (.ref f) = true ∧ Binds K fd ps ds ∧ Vals dvs ds
abbrev RB (P : Program) (w : World) (K : PySem.W.Frag) (mg : Str → Option Value) (base : Heap) (N : List Str) (x : Str) (st : Stmt) (f : Addr) (cdv : Value) (A : Around) (outer : List Env) (s : Shared) (H : Hp) (E : XK) : Cx := cxOf (CX P w) P w K mg base N x (C8.fnScope st) f cdv A outer s H E
theorem bx_nox {P : Program} {w : World} {K : PySem.W.Frag} {mg : Str → Option Value} {base : Heap} {N : List Str} {x : Str} {st : Stmt} {f : Addr} {cdv : Value} {A : Around} {outer : List Env} {s : Shared} {H : Hp} {E : XK} : (RB P w K mg base N x st f cdv A outer s H E).nox = BD P w K mg base N x st f cdv A outer s H E := rfl
abbrev TK (X : Cx) (E : XK) : Prop := Takes X (fun cls d _ H => E cls d H)
theorem tk_bx {P : Program} {w : World} {K : PySem.W.Frag} {mg : Str → Option Value} {base : Heap} {N : List Str} {x : Str} {st : Stmt} {f : Addr} {cdv : Value} {A : Around} {outer : List Env} {s : Shared} {H : Hp} {E : XK} : TK (RB P w K mg base N x st f cdv A outer s H E) E :=
  takes_of rfl rfl rfl rfl
def RXs (X : Cx) (E : XK) (sts : List Stmt) (ρ : Sl) (μ : Mu) (C : Addr) (y : Str) : Prop := ∀ σ H, Rep X.K ρ μ σ H → RaisesK E H μ C y → ∀ D, cSs X sts D σ H
def RX (X : Cx) (E : XK) (st : Stmt) (ρ : Sl) (μ : Mu) (C : Addr) (y : Str) : Prop := ∀ σ H, Rep X.K ρ μ σ H → RaisesK E H μ C y → ∀ D, cS X st D σ H
section
variable {X : Cx} {E : XK} {ρ : Sl} {μ : Mu} {C : Addr} {y : Str} {st : Stmt} {sts tb eb : List Stmt} {c e : Expr} {es : List Expr} {pos p p' : Pos}
theorem rxs_cons (h : DS X.nox st ρ μ { nx := fun ρ' μ' => μ' = μ ∧ RXs X E sts ρ' μ C y, rt := fun _ _ => False }) : RXs X E (st :: sts) ρ μ C y := fun σ H R r D =>
  cSs_of (pss_cons (PS.nox (ps_k st)) (pss_k sts)) (h σ H R _ ⟨fun ρ' μ' σ' H' ⟨em, q⟩ e1 R1 => by subst em; exact q σ' H' R1 (r.from e1) D, fun _ _ _ _ q => q.elim, fun _ _ _ _ q => q.elim, fun _ _ _ _ q => q.elim⟩)
theorem rxs_ends (h : RX X E st ρ μ C y) : RXs X E (st :: sts) ρ μ C y := fun σ H R r D => cSs_of (pss_cons (ps_k st) (pss_k sts)) (h σ H R r _)
theorem rxs_ifT (h : DT X.nox c ρ μ fun k m => m = μ ∧ k = true ∧ RXs X E tb ρ μ C y) : RXs X E (.If c tb eb pos :: sts) ρ μ C y := fun σ H R r D =>
  cSs_of (pss_cons (ps_if (PT.nox (pt_k c)) (pss_k tb) (pss_k eb)) (pss_k sts)) (h σ H R _ fun k μ' H' ⟨em, ek, q⟩ e1 m1 => by
    subst em; subst ek
    exact q σ H' (R.step e1 m1) (r.from e1) _)
/-- raise Cn(e) -/
theorem pmk_oexR {CXt : CXT} {x : Str} {fI : Addr} {k : Nat} {sp : Sp} {ta : TA} (T : OexC X.K C) (iC : PySem.W.findIn X.K (.ref C) "__init__" = some (some (.ref fI))) (tI : PySem.W.typeIn X.K (.ref fI) = some (.type "function"))
    (F1 : FnR X.prog X.w X.K X.mg X.base CXt k fI sp) (hr : Room (k + 1) X.A) (hx : Passes CXt X (fun _ _ _ => False)) (hg : Gl X x) (hm : X.mg x = some (.ref C)) (ha : PA X (e :: es) ta)
    (hdb : (x == ("__debug__" : Str)) = false := by decide) (he : starEach (e :: es) X.env = (false, eval e X.env) :: starEach es X.env := by rfl) (hpl : (backTo pos (starEach es X.env)).any (·.1) = false := by rfl) :
    PMk X (.Call (.Name x p) (e :: es) [] pos) (tMkO C sp [] ta) := by
  intro pins s σ H Q I h
  obtain ⟨nm, q, N, bs, bm, sn, sub, ab, col, dd, k0, k1, k2, k3, k5, hC, hbm⟩ := T.cls
  refine wpAny_Call_Name_kw (ld_glob I hg hm ?_ hdb)
  refine PySem.W.callWith_K (h₀ := X.base) I.ok.mod.kin T.kC (thn (ha.run pos pins s σ H _ I h) fun us s1 ⟨vs, H1, I1, r1, hz, q1⟩ => ⟨I1.kIn, ?_⟩) he hpl
  show wpAny _ _ (call (.ref C) us) _ _ _
  obtain ⟨hp, g, dr, tk, os⟩ := s1
  have hsz : hp.objs.size ≤ hp.objs.size + 1 := Nat.le_succ _
  have hn : H1 (hp.objs.size + 1) = none := I1.hok.fresh hsz
  have hq := q1 (hp.objs.size + 1) hn
  rw [List.append_nil] at hq
  have kk : ∀ b o, hp.get? b = some o → ((hp.push (PySem.W.kdv_tup us)).push (PySem.HandSPX.excO C hp.objs.size)).get? b = some o := fun b o e => Heap.get?_push_of_some _ (Heap.get?_push_of_some _ e)
  have hget : ((hp.push (PySem.W.kdv_tup us)).push (PySem.HandSPX.excO C hp.objs.size)).get? (hp.objs.size + 1) = some (PySem.HandSPX.excO C hp.objs.size) := by heap_get
  have I2 : Inv X pins σ (upd H1 (hp.objs.size + 1) (exo (hp.objs.size + 1) C none)) ⟨(hp.push (PySem.W.kdv_tup us)).push (PySem.HandSPX.excO C hp.objs.size), g, dr, tk, os⟩ :=
    I1.laid (t' := tk) (a := hp.objs.size + 1) (o := exo (hp.objs.size + 1) C none) (h' := (hp.push (PySem.W.kdv_tup us)).push (PySem.HandSPX.excO C hp.objs.size)) kk hsz (exo_ok hget)
  have r2 : Vals (V.ref (hp.objs.size + 1) :: vs) (Value.ref (hp.objs.size + 1) :: us) := .cons rfl r1
  have hus : us.length ≤ sizeLine := by
    rw [← Paired.length r1, sizeLine_eq]
    omega
  refine wpAny_call (PySem.HandSPX.call_own F.excBase_ValueError (fun Y => PySem.HandSPX.refsVE_contains Y bm hbm) (I1.kIn _ _ hC) (PySem.W.looks_findIn I1.kIn iC) (fun self => PySem.W.bind_fn I1.kIn self tI) hus
    (codeAny_mono (F1 _ X.stack _ _ (Value.ref (hp.objs.size + 1) :: us) _ _ (fun _ _ _ => False) (hr.make C us []) (I2.env0.make C us []) r2 hq) fun r s' hq' => ?_))
  cases r with
  | error er => exact hx pins σ _ _ er s' I2 hq'
  | ok fl =>
    cases fl with
    | ret u =>
      obtain ⟨v, H2, os2, bare2, un2, hok2, rv, ev, d, fs, ea, ed, hd1, q2⟩ := hq'
      subst ev
      obtain ⟨h2, g2, d2, t2, os'⟩ := s'
      exact ⟨rv, mk_end (raises_own T.exC T.tyC) I1 hsz kk un2 hok2 os2 bare2 ea ed hd1 q2⟩
    | next => exact False.elim hq'
    | brk => exact False.elim hq'
    | cont => exact False.elim hq'
theorem rx_raise {k : Nat} {cn qual : Str} {sti : Stmt} {fI cda cc : Addr} (T : ExT X.prog X.K X.mg cn sti qual fI C cda cc) (FI : FnR X.prog X.w X.K X.mg X.base CX0 1 fI (spExI C)) (hc : X.calm = true) (tk : TK X E) (hr : Room k X.A) (hk : 2 ≤ k)
    (h : DE X.nox e ρ μ fun x m => m = μ ∧ x = .d (.str y) ∧ y.length ≤ 1000) (hg : Gl X cn := by rfl)
    (hdb : (cn == ("__debug__" : Str)) = false := by decide) (he : starEach [e] X.env = (false, eval e X.env) :: starEach [] X.env := by rfl) (hpl : (backTo pos (starEach [] X.env)).any (·.1) = false := by rfl) : RX X E (.Raise (some (.Call (.Name cn p) [e] [] pos)) none p') ρ μ C y := fun σ H R r D =>
  cS_of (ps_raise hc tk (pmk_oexR T.oex T.ini T.ty FI (hr.mono hk) C8.pass0 hg T.mgC (pa_cons (PE.nox (pe_k e)) pa_nil he) hdb he hpl)) (h σ H R _ fun x μ1 v H1 ⟨em, ex, hy⟩ e1 m1 r1 => by
    subst em; subst ex
    cases r1
    refine ⟨by show 1 ≤ 1000; decide, fun a ha => ⟨a, y, rfl, hy, upd_same, fun dx hdx hne => ⟨rfl, dx, [("part", .str y)], upd_same, ?_, ?_, ?_⟩⟩⟩
    · rw [upd_ne hne, upd_same]
    · rw [upd_ne hne] at hdx; exact hdx
    · have hd1 : H1 dx = none := by rw [upd_ne hne] at hdx; exact hdx
      have eq : upd (del (upd (upd (upd H1 a (exo a C none)) dx (exd dx [("part", .str y)])) a (exo a C (some dx))) a) dx (.xd [("part", .str y)]) = upd H1 dx (.xd [("part", .str y)]) := by
        funext b
        by_cases hb : b = dx
        · rw [hb, upd_same, upd_same]
        · rw [upd_ne hb, upd_ne hb]
          by_cases hba : b = a
          · rw [hba, del_same, ha]
          · rw [del_ne hba, upd_ne hba, upd_ne hb, upd_ne hba]
      rw [eq]
      exact r dx _ (e1.trans (ex_new hd1)) (m1.new hd1) upd_same)
theorem pe_cX {x : Str} {k j : Nat} {sp : Sp} {dvs : List V} {t : TA} (c : CalX X.prog X.w X.K X.mg X.base k x sp dvs) (tk : TK X E) (hr : Room j X.A) (hk : k ≤ j) (hg : Gl X x) (ha : PA X (e :: es) t)
    (hdb : (x == ("__debug__" : Str)) = false := by decide) (he : starEach (e :: es) X.env = (false, eval e X.env) :: starEach es X.env := by rfl) (hpl : (backTo pos (starEach es X.env)).any (·.1) = false := by rfl) :
    PE X (.Call (.Name x p) (e :: es) [] pos) (tCall sp dvs E t) := by
  obtain ⟨f, fd, ps, ds, F, hm, kp, b, d⟩ := c.ex
  exact pe_call F (hr.mono hk) hg hm kp b d (passes_call tk fun _ _ _ _ h => h) ha hdb he hpl
theorem rx_expr {x : Str} {n k j : Nat} {dsp : List SV → Mu → Addr → Str → Prop} {dvs : List V} {dx : List SV} (c : CalX X.prog X.w X.K X.mg X.base k x (spX X.K n dsp) dvs) (hd : ∀ G, RvAll X.K G dx dvs) (tk : TK X E) (hr : Room j X.A) (hk : k ≤ j) (h : DA X.nox (e :: es) ρ μ fun xs m => m = μ ∧ (xs ++ dx).length = n ∧ dsp (xs ++ dx) μ C y) (hg : Gl X x := by rfl)
    (hdb : (x == ("__debug__" : Str)) = false := by decide) (he : starEach (e :: es) X.env = (false, eval e X.env) :: starEach es X.env := by rfl) (hpl : (backTo pos (starEach es X.env)).any (·.1) = false := by rfl) (hs : swapsWith (.Call (.Name x p) (e :: es) [] pos) none p'.line X.env = pure false := by rfl) :
    RX X E (.Expr (.Call (.Name x p) (e :: es) [] pos) p') ρ μ C y := fun σ H R r D =>
  cS_of (ps_expr (pe_cX c tk hr hk hg (PA.nox (pa_k (e :: es))) hdb he hpl) hs) (h σ H R _ fun xs μ1 vs H1 ⟨em, hn, q⟩ e1 m1 r1 => by
    subst em
    exact ⟨xs ++ dx, _, C, y, hn, m1, Paired.append r1 (hd _), q, r.from e1⟩)
theorem rx_ret {x : Str} {n k j : Nat} {dsp : List SV → Mu → Addr → Str → Prop} {dvs : List V} {dx : List SV} (c : CalX X.prog X.w X.K X.mg X.base k x (spX X.K n dsp) dvs) (hd : ∀ G, RvAll X.K G dx dvs) (tk : TK X E) (hr : Room j X.A) (hk : k ≤ j) (h : DA X.nox (e :: es) ρ μ fun xs m => m = μ ∧ (xs ++ dx).length = n ∧ dsp (xs ++ dx) μ C y) (hg : Gl X x := by rfl)
    (hdb : (x == ("__debug__" : Str)) = false := by decide) (he : starEach (e :: es) X.env = (false, eval e X.env) :: starEach es X.env := by rfl) (hpl : (backTo pos (starEach es X.env)).any (·.1) = false := by rfl) :
    RX X E (.Return (some (.Call (.Name x p) (e :: es) [] pos)) p') ρ μ C y := fun σ H R r D =>
  cS_of (ps_ret (pe_cX c tk hr hk hg (PA.nox (pa_k (e :: es))) hdb he hpl)) (h σ H R _ fun xs μ1 vs H1 ⟨em, hn, q⟩ e1 m1 r1 => by
    subst em
    exact ⟨xs ++ dx, _, C, y, hn, m1, Paired.append r1 (hd _), q, r.from e1⟩)
end
section
variable {P : Program} {w : World} {K : PySem.W.Frag} {mg : Str → Option Value} {base : Heap}
/-- a def that raises, by its body -/
theorem d_okX {x : Str} {st : Stmt} {N ps : List Str} {ds : List Value} {dvs : List V} {k n : Nat} {dsp : List SV → Mu → Addr → Str → Prop} (T : Tp K mg x st ps ds) (d : Vals dvs ds) (S : FnScope N ps (C8.fnScope st)) (hn : ps.length = n)
    (h : ∀ (f : Addr) (cdv : Value) (A : Around) (outer : List Env) (s : Shared) (H : Hp) (E : XK), Room k (RB P w K mg base N x st f cdv A outer s H E).A → ∀ (xs : List SV) (μ : Mu) (C : Addr) (y : Str), xs.length = n → dsp xs μ C y →
      RXs (RB P w K mg base N x st f cdv A outer s H E) E (C8.fnBody st) (startD N xs) μ C y) : CalX P w K mg base (k + 1) x (spX K n dsp) dvs := by
  obtain ⟨f, fd, F, b⟩ := T.ex
  refine ⟨f, fd, ps, ds, ?_, F.mgf, F.kp, b, d⟩
  obtain ⟨oc, od, dV, kV, doc, pm, an, cdv, ct, osl, rfl, lk, hcd⟩ := F.fn.ex
  refine fn_of lk hcd S (fun vs H Q E ⟨xs, μ, C, y, hl, _, r, _, _⟩ => by rw [← Paired.length r, hl, hn]) fun A outer s H vs Q E hr hsp => ?_
  obtain ⟨xs, μ, C, y, hl, m, r, q, kk⟩ := hsp
  have body := h f cdv A outer s H E hr xs μ C y hl q
  exact ⟨cSs (RB P w K mg base N x st f cdv A outer s H E) (C8.fnBody st), pss_k _, body (L2.start N vs) H (rep_start m r) kk _⟩
end
end T12
end
section
set_option Elab.async false
set_option linter.all false
set_option maxRecDepth 100000
set_option maxHeartbeats 4000000
set_option exponentiation.threshold 5000
namespace T12
open NdefX ClX StX
open PySem PySem.Spec PyProof.Rows L2
section
variable {P : Program} {w : World} {K : PySem.W.Frag} {mg : Str → Option Value} {base : Heap}
/-! need_machine, raising -/
def OddM (K : PySem.W.Frag) (C : Addr) (x : SV) : Prop := ∃ t, tyN x = some t ∧ (∀ μ, known μ x) ∧ PySem.W.kitOne K (.type t) (.ref C) = some false
def spNeedMachineX (K : PySem.W.Frag) (C CM : Addr) : List SV → Mu → Addr → Str → Prop := fun xs _ Cx y => ∃ x, xs = [x, .d (.str y)] ∧ OddM K C x ∧ Cx = CM ∧ y.length ≤ 1000
theorem ok_need_machineX {C CM fM cda cc : Addr} {tk : Tok} (T : Tp K mg "need_machine" sNeedMachine ["value", "part"] [Value.str "machine" tk]) (M : McT K mg C) (B : Bl mg) (TM : ExT P K mg "BadMachine" sBadMacI "BadMachine.__init__" fM CM cda cc) (FM : FnR P w K mg base CX0 1 fM (spExI CM)) : CalX P w K mg base 3 "need_machine" (spX K 2 (spNeedMachineX K C CM)) [.str "machine"] := by
  refine d_okX (k := 2) T (.cons ⟨tk, rfl⟩ .nil) scNeedMachine rfl fun f cdv A outer s H E hr xs μ Cx y hl ⟨x, ex, ⟨t, h1, h2, h3⟩, eC, hy⟩ => ?_
  subst ex; subst eC
  refine rxs_ifT (dt_not (dt_val (de_isOwn (C := C) B.isinstance M.mgC (dv 0 (.inl ⟨t, false, h1, h2 _, h3, false, rfl, rfl, rfl, ?_⟩)))))
  exact rxs_ends (rx_raise TM FM rfl tk_bx hr (by decide) (dv 1 ⟨rfl, rfl, hy⟩))
/-! made -/
abbrev sMade : Stmt := topS 57
theorem scMade : FnScope ["machine", "pieces", "part", "piece"] ["machine", "pieces", "part"] (C8.fnScope sMade) := ⟨rfl, rfl, rfl, by decide +kernel, rfl, by decide +kernel, by decide +kernel⟩
def spMade (C : Addr) : DSp := fun xs μ Q => ∃ (n : Nat) (ps ps' : List Pc) (z : SV), xs = [.o C (mcF n ps), .d (piecesD ps'), z] ∧ MOk n ps' ∧ Q (.o C (mcF n ps')) μ
def spMadeX (C CF : Addr) : List SV → Mu → Addr → Str → Prop := fun xs _ Cx y => ∃ (n : Nat) (ps ps' : List Pc), xs = [.o C (mcF n ps), .d (piecesD ps'), .d (.str y)] ∧ n ≤ 2 ∧ ps'.length ≤ 60 ∧ (∀ p ∈ ps', p.Wd n) ∧ ps'.all goodPc = false ∧ Cx = CF ∧ y.length ≤ 1000
theorem all_goods (l : List Pc) : (l.map goodPc).all id = l.all goodPc := by
  induction l with
  | nil => rfl
  | cons a l ih => rw [List.map_cons, List.all_cons, List.all_cons, ih]; rfl
theorem ok_made {C : Addr} (T : Tp K mg "made" sMade ["machine", "pieces", "part"] []) (M : McT K mg C) (B : Bl mg) (c_is_piece : C8.Cal P w K mg base 6 "is_piece" (spD K 2 spIsPiece) []) (c_mk : C8.Mak P w K mg base 7 "Machine" C (spMcI K C) []) : C8.Cal P w K mg base 9 "made" (spD K 3 (spMade C)) [] := by
  refine d_ok (k := 8) T .nil scMade rfl fun f cdv A outer s H E hr xs μ Q hl ⟨n, ps, ps', z, ex, ok, hq⟩ => ?_
  subst ex
  refine dss_cons (ds_if (dt_not (dt_val (de_all B.all (lc1 3 scMade (di_list (dv 1 ⟨_, rfl, ?_, ?_⟩)))))))
  · rw [List.length_map]; have := ok.len.2; omega
  refine dlc_map (e := pieceD) (g := fun p => .bool (goodPc p)) ps' [] (fun p hp => ⟨_, rfl, fun m s0 H0 C0 cl0 fp0 => ?_⟩) ?_
  · exact de_call c_is_piece hr (by decide) (da_cons (dv 3 (da_cons (de_fld M.cl M.nW (dv 0 ⟨_, _, rfl, rfl, da_nil ⟨rfl, p, n, rfl, ok.wd p hp, by have := ok.hn.2; omega, rfl, rfl⟩⟩)))))
  refine ⟨_, congrArg (fun l => SV.d (.list l)) (bools_map (h := goodPc)), _, rfl, ?_⟩
  rw [all_map_true fun p hp => ok.good p hp]
  refine iteF (dss_nil ?_)
  exact dss_cons (ds_ret (de_mkMachine c_mk hr (by decide) (da_cons (de_fld M.cl M.nW (dv 0 ⟨_, _, rfl, rfl, da_cons (dv 1 (da_nil ⟨n, ps', rfl, ok, hq⟩))⟩)))))
theorem ok_madeX {C CF fF cda cc : Addr} (T : Tp K mg "made" sMade ["machine", "pieces", "part"] []) (M : McT K mg C) (B : Bl mg) (TF : ExT P K mg "Misfit" sMisfitI "Misfit.__init__" fF CF cda cc) (FF : FnR P w K mg base CX0 1 fF (spExI CF)) (c_is_piece : C8.Cal P w K mg base 6 "is_piece" (spD K 2 spIsPiece) []) : CalX P w K mg base 9 "made" (spX K 3 (spMadeX C CF)) [] := by
  refine d_okX (k := 8) T .nil scMade rfl fun f cdv A outer s H E hr xs μ Cx y hl ⟨n, ps, ps', ex, hn, hlen, hwd, hgood, eC, hy⟩ => ?_
  subst ex; subst eC
  refine rxs_ifT (dt_not (dt_val (de_all B.all (lc1 (E := E) 3 scMade (di_list (dv 1 ⟨_, rfl, ?_, ?_⟩))))))
  · rw [List.length_map]; omega
  refine dlc_map (e := pieceD) (g := fun p => .bool (goodPc p)) ps' [] (fun p hp => ⟨_, rfl, fun m s0 H0 C0 cl0 fp0 => ?_⟩) ?_
  · exact de_call c_is_piece hr (by decide) (da_cons (dv 3 (da_cons (de_fld M.cl M.nW (dv 0 ⟨_, _, rfl, rfl, da_nil ⟨rfl, p, n, rfl, hwd p hp, by omega, rfl, rfl⟩⟩)))))
  refine ⟨_, congrArg (fun l => SV.d (.list l)) (bools_map (h := goodPc)), _, rfl, rfl, by rw [all_goods, hgood]; rfl, ?_⟩
  exact rxs_ends (rx_raise TF FF rfl tk_bx hr (by decide) (dv 2 ⟨rfl, rfl, hy⟩))
end
end T12
end
section
set_option Elab.async false
set_option linter.all false
set_option maxRecDepth 100000
set_option maxHeartbeats 4000000
set_option exponentiation.threshold 5000
namespace T12
open NdefX ClX StX
open PySem PySem.Spec PyProof.Rows L2
section
variable {P : Program} {w : World} {K : PySem.W.Frag} {mg : Str → Option Value} {base : Heap}
/-- a def's promise, by whatever function object stands for it -/
theorem d_okF {x : Str} {st : Stmt} {N ps : List Str} {k n : Nat} {dsp : DSp} (S : FnScope N ps (C8.fnScope st)) (hn : ps.length = n)
    (h : ∀ (f : Addr) (cdv : Value) (A : Around) (outer : List Env) (s : Shared) (H : Hp) (E : XK), Room k (BD P w K mg base N x st f cdv A outer s H E).A → ∀ (xs : List SV) (μ : Mu) (Q : SV → Mu → Prop), xs.length = n → dsp xs μ Q →
      DSs (BD P w K mg base N x st f cdv A outer s H E) (C8.fnBody st) (startD N xs) μ { nx := fun _ m => Q (.d .none) m, rt := Q }) (f : Addr) (fd : FuncData) (F : C8.Def K mg x st f fd) : FnOk P w K mg base CX0 (k + 1) f fd ps (spD K n dsp) := by
  refine C8.fn0 F.fn S (fun vs H Q E ⟨xs, μ, P', hl, _, r, _, _⟩ => by rw [← Paired.length r, hl, hn]) fun cdv A outer s H vs Q E hr hsp => ?_
  obtain ⟨xs, μ, P', hl, m, r, q, kk⟩ := hsp
  have body := h f cdv A outer s H E hr xs μ P' hl q
  refine ⟨cSs (BD P w K mg base N x st f cdv A outer s H E) (C8.fnBody st), pss_k _, ?_⟩
  refine body (L2.start N vs) H (rep_start m r) _ ⟨fun ρ' μ' σ' H' z e1 R1 => ?_, kk, fun _ _ _ _ z => z.elim, fun _ _ _ _ z => z.elim⟩
  exact kk _ μ' _ H' z e1 R1.mu .non
theorem cal_ofF {x : Str} {st : Stmt} {ps : List Str} {k : Nat} {sp : Sp} (T : Tp K mg x st ps []) (h : ∀ f fd, C8.Def K mg x st f fd → FnOk P w K mg base CX0 k f fd ps sp) : C8.Cal P w K mg base k x sp [] := by
  obtain ⟨f, fd, F, b⟩ := T.ex
  exact ⟨f, fd, ps, [], h f fd F, F.mgf, F.kp, b, .nil⟩
abbrev sMoved : Stmt := topS 58
abbrev nMoved : List Str := ["machine", "shift", "each", "piece"]
theorem scMoved : FnScope nMoved ["machine", "shift"] (C8.fnScope sMoved) := ⟨rfl, rfl, rfl, by decide +kernel, rfl, by decide +kernel, by decide +kernel⟩
abbrev sMirrored : Stmt := topS 59
theorem scMirrored : FnScope ["machine", "piece"] ["machine"] (C8.fnScope sMirrored) := ⟨rfl, rfl, rfl, by decide +kernel, rfl, by decide +kernel, by decide +kernel⟩
/-- a list or a tuple of these -/
def SeqOf (y : PyData) (ds : List PyData) : Prop := y = .list ds ∨ y = .tuple ds
theorem SeqOf.items {y : PyData} {ds : List PyData} {μ : Mu} (h : SeqOf y ds) : T12.items μ (.d y) = some ds := by rcases h with rfl | rfl <;> rfl
theorem SeqOf.lst {y : PyData} {ds : List PyData} (h : SeqOf y ds) : isLst (.d y) = some true := by rcases h with rfl | rfl <;> rfl
theorem SeqOf.seq {y : PyData} {ds : List PyData} (h : SeqOf y ds) : ∃ k, seqD y = some (k, ds) := by rcases h with rfl | rfl <;> exact ⟨_, rfl⟩
theorem di_seq {X : Cx} {ρ : Sl} {μ : Mu} {tg iter : Expr} {R : List PyData → Mu → Prop} (h : DE X iter ρ μ fun x m => ∃ y ds, x = .d y ∧ SeqOf y ds ∧ R ds m) {y : PyData} {ds : List PyData} (hs : SeqOf y ds) (hq : DE X iter ρ μ fun x m => x = .d y ∧ R ds m) : DI X tg iter ρ μ R := by
  rcases hs with rfl | rfl
  · exact di_list (hq.imp fun x m ⟨e, q⟩ => ⟨_, e, q⟩)
  · exact di_tup (hq.imp fun x m ⟨e, q⟩ => ⟨_, e, q⟩)
theorem di_seqV {X : Cx} {ρ : Sl} {μ : Mu} {tg iter : Expr} {R : List PyData → Mu → Prop} {y : PyData} {ds : List PyData} (hs : SeqOf y ds) (hq : DE X iter ρ μ fun x m => x = .d y ∧ R ds m) : DI X tg iter ρ μ R := by
  rcases hs with rfl | rfl
  · exact di_list (hq.imp fun x m ⟨e, q⟩ => ⟨_, e, q⟩)
  · exact di_tup (hq.imp fun x m ⟨e, q⟩ => ⟨_, e, q⟩)
/-- pieces that may be moved or turned -/
structure PsOk (n : Nat) (ps : List Pc) : Prop where
  hn : n ≤ 2
  len : ps.length ≤ 60
  wd : ∀ p ∈ ps, p.Wd n
  bd : ∀ p ∈ ps, ∃ D N, p.In D N ∧ 0 < D ∧ D < 2 ^ 100 ∧ N < 2 ^ 100
def spMoved (C : Addr) : DSp := fun xs μ Q => ∃ (n : Nat) (ps : List Pc) (y : PyData) (s : List Int), xs = [.o C (mcF n ps), .d y] ∧ SeqOf y (s.map .int) ∧ s.length = n ∧ PsOk n ps ∧ (∀ i ∈ s, i.natAbs < 2 ^ 100) ∧ MOk n (ps.map fun p => movedQ p s) ∧ Q (.o C (mcF n (ps.map fun p => movedQ p s))) μ
theorem gd_of {D : Nat} (h0 : 0 < D) (h : D < 2 ^ 100) : Gd D := ⟨h0, Nat.lt_trans h (Nat.pow_lt_pow_right (by decide) (by decide))⟩
theorem ints_int {s : List Int} : [] ++ s.map (fun _ => PyData.bool true) = (s.map fun _ => true).map .bool := by
  rw [List.nil_append, List.map_map]; rfl
theorem moved_len {n : Nat} (ps : List Pc) : (ps.map pieceD).length ≤ 1000 ↔ ps.length ≤ 1000 := by rw [List.length_map]
theorem fn_moved {C : Addr} (M : McT K mg C) (B : Bl mg) (c_nm : C8.Cal P w K mg base 1 "need_machine" (spD K 2 (spNeedMachine C)) [.str "machine"]) (c_is_list : C8.Cal P w K mg base 1 "is_list" (spD K 1 spIsList) []) (c_is_integer : C8.Cal P w K mg base 1 "is_integer" (spD K 1 spIsInteger) [])
    (c_moved_piece : C8.Cal P w K mg base 6 "moved_piece" (spD K 2 spMovedPiece) []) (c_made : C8.Cal P w K mg base 9 "made" (spD K 3 (spMade C)) []) : ∀ f fd, C8.Def K mg "moved" sMoved f fd → FnOk P w K mg base CX0 10 f fd ["machine", "shift"] (spD K 2 (spMoved C)) := by
  refine d_okF (k := 9) scMoved rfl fun f cdv A outer s H E hr xs μ Q hl ⟨n, ps, y, sh, ex, hy, hsl, hps, hs, ok, hq⟩ => ?_
  subst ex
  obtain ⟨kd, hk⟩ := hy.seq
  refine dss_cons (ds_expr (de_callD (dx := [.d (.str "machine")]) c_nm (fun G => .cons (.str _) .nil) hr (by decide) (da_cons (dv 0 (da_nil ⟨rfl, n, ps, _, rfl, ?_⟩)))))
  refine dss_cons (ds_if (dt_w (dw_or (dt_not (dt_val (de_call c_is_list hr (by decide) (da_cons (dv 1 (da_nil ⟨rfl, _, true, rfl, hy.lst, trivial, true, rfl, ?_⟩)))))))))
  refine iteF (dw_or (dt_cmp (dc_neI (de_len B.len (dv 1 ⟨_, hy.items, de_fld M.cl M.nW (dv 0 ⟨_, _, rfl, rfl, _, _, rfl, rfl, _, rfl, ?_⟩)⟩)))))
  rw [decide_eq_true (by rw [List.length_map, hsl])]
  refine iteF (dw_or1 (dt_not (dt_val (de_all B.all (lc1 2 scMoved (di_seqV hy (dv 1 ⟨rfl, ?_, ?_⟩)))))))
  · rw [List.length_map, hsl]; have := hps.hn; omega
  refine dlc_map (e := .int) (g := fun _ => .bool true) sh [] (fun i hi => ⟨_, rfl, fun m s0 H0 C0 cl0 fp0 => ?_⟩) ?_
  · refine de_call c_is_integer hr (by decide) (da_cons (dv 2 (da_nil ⟨rfl, ?_⟩)))
    exact ⟨_, true, rfl, rfl, trivial, rfl, rfl⟩
  refine ⟨_, congrArg (fun l => SV.d (.list l)) ints_int, _, rfl, ?_⟩
  rw [all_map_true fun _ _ => rfl]
  refine iteF (dss_nil ?_)
  refine dss_cons (ds_ret (de_call c_made hr (by decide) (da_cons (dv 0 (da_cons (lc1 3 scMoved (di_tup (de_fld M.cl M.nP (dv 0 ⟨_, _, rfl, rfl, _, rfl, ?_, ?_⟩)))))))))
  · rw [List.length_map]; have := hps.len; omega
  refine dlc_map (e := pieceD) (g := fun p => pieceD (movedQ p sh)) ps [] (fun p hp => ⟨_, rfl, fun m s0 H0 C0 cl0 fp0 => ?_⟩) ?_
  · obtain ⟨D, N, hi, h0, hD, hN⟩ := hps.bd p hp
    exact de_call c_moved_piece hr (by decide) (da_cons (dv 3 (da_cons (dv 1 (da_nil ⟨rfl, p, y, kd, sh, D, N, rfl, hk, hi, gd_of h0 hD, hN, hD, hs, rfl, rfl⟩)))))
  refine da_cons (de_str (da_nil ⟨rfl, n, ps, ps.map fun p => movedQ p sh, .d (.str "shift"), ?_, ok, hq⟩))
  rw [List.nil_append]
  show _ = [_, SV.d (.list ((ps.map fun p => movedQ p sh).map pieceD)), _]
  rw [List.map_map]; rfl
def spMirrored (C : Addr) : DSp := fun xs μ Q => ∃ (n : Nat) (ps : List Pc), xs = [.o C (mcF n ps)] ∧ PsOk n ps ∧ MOk n (ps.map mirQ) ∧ Q (.o C (mcF n (ps.map mirQ))) μ
theorem fn_mirrored {C : Addr} (M : McT K mg C) (B : Bl mg) (c_nm : C8.Cal P w K mg base 1 "need_machine" (spD K 2 (spNeedMachine C)) [.str "machine"])
    (c_mir : C8.Cal P w K mg base 4 "mirrored_piece" (spD K 1 spMirroredPiece) []) (c_made : C8.Cal P w K mg base 9 "made" (spD K 3 (spMade C)) []) : ∀ f fd, C8.Def K mg "mirrored" sMirrored f fd → FnOk P w K mg base CX0 10 f fd ["machine"] (spD K 1 (spMirrored C)) := by
  refine d_okF (k := 9) scMirrored rfl fun f cdv A outer s H E hr xs μ Q hl ⟨n, ps, ex, hps, ok, hq⟩ => ?_
  subst ex
  refine dss_cons (ds_expr (de_callD (dx := [.d (.str "machine")]) c_nm (fun G => .cons (.str _) .nil) hr (by decide) (da_cons (dv 0 (da_nil ⟨rfl, n, ps, _, rfl, ?_⟩)))))
  refine dss_cons (ds_ret (de_call c_made hr (by decide) (da_cons (dv 0 (da_cons (lc1 1 scMirrored (di_tup (de_fld M.cl M.nP (dv 0 ⟨_, _, rfl, rfl, _, rfl, ?_, ?_⟩)))))))))
  · rw [List.length_map]; have := hps.len; omega
  refine dlc_map (e := pieceD) (g := fun p => pieceD (mirQ p)) ps [] (fun p hp => ⟨_, rfl, fun m s0 H0 C0 cl0 fp0 => ?_⟩) ?_
  · obtain ⟨D, N, hi, h0, hD, hN⟩ := hps.bd p hp
    exact de_call c_mir hr (by decide) (da_cons (dv 1 (da_nil ⟨rfl, p, D, N, rfl, hi, gd_of h0 hD, pow100 hN (by decide), rfl, rfl⟩)))
  refine da_cons (de_str (da_nil ⟨rfl, n, ps, ps.map mirQ, .d (.str "machine"), ?_, ok, hq⟩))
  rw [List.nil_append]
  show _ = [_, SV.d (.list ((ps.map mirQ).map pieceD)), _]
  rw [List.map_map]; rfl
theorem ok_moved {C : Addr} (T : Tp K mg "moved" sMoved ["machine", "shift"] []) (M : McT K mg C) (B : Bl mg) (c_nm : C8.Cal P w K mg base 1 "need_machine" (spD K 2 (spNeedMachine C)) [.str "machine"]) (c_is_list : C8.Cal P w K mg base 1 "is_list" (spD K 1 spIsList) []) (c_is_integer : C8.Cal P w K mg base 1 "is_integer" (spD K 1 spIsInteger) [])
    (c_moved_piece : C8.Cal P w K mg base 6 "moved_piece" (spD K 2 spMovedPiece) []) (c_made : C8.Cal P w K mg base 9 "made" (spD K 3 (spMade C)) []) : C8.Cal P w K mg base 10 "moved" (spD K 2 (spMoved C)) [] :=
  cal_ofF T (fn_moved M B c_nm c_is_list c_is_integer c_moved_piece c_made)
theorem ok_mirrored {C : Addr} (T : Tp K mg "mirrored" sMirrored ["machine"] []) (M : McT K mg C) (B : Bl mg) (c_nm : C8.Cal P w K mg base 1 "need_machine" (spD K 2 (spNeedMachine C)) [.str "machine"])
    (c_mir : C8.Cal P w K mg base 4 "mirrored_piece" (spD K 1 spMirroredPiece) []) (c_made : C8.Cal P w K mg base 9 "made" (spD K 3 (spMade C)) []) : C8.Cal P w K mg base 10 "mirrored" (spD K 1 (spMirrored C)) [] :=
  cal_ofF T (fn_mirrored M B c_nm c_mir c_made)
end
end T12
end
section
set_option Elab.async false
set_option linter.all false
set_option maxRecDepth 100000
set_option maxHeartbeats 4000000
set_option exponentiation.threshold 5000
namespace T12
open NdefX ClX StX
open PySem PySem.Spec PyProof.Rows L2
section
variable {P : Program} {w : World} {K : PySem.W.Frag} {mg : Str → Option Value} {base : Heap}
/-- no shift of this width -/
inductive OddSh (n : Nat) : SV → Prop
  | nol {x : SV} : isLst x = some false → (∀ μ, known μ x) → OddSh n x
  | len {ds : List PyData} : ds.length ≠ n → OddSh n (.d (.list ds))
  | el {ds : List PyData} : ds ≠ [] → ds.length = n → (∀ d ∈ ds, isInt (.d d) = some false) → OddSh n (.d (.list ds))
def spMovedX (K : PySem.W.Frag) (C CM CN CF : Addr) : List SV → Mu → Addr → Str → Prop := fun xs _ Cx y =>
  (∃ x z, xs = [x, z] ∧ OddM K C x ∧ Cx = CM ∧ y = "machine") ∨
  (∃ n ps z, xs = [.o C (mcF n ps), z] ∧ n ≤ 900 ∧ OddSh n z ∧ Cx = CN ∧ y = "shift") ∨
  (∃ n ps z s, xs = [.o C (mcF n ps), .d z] ∧ SeqOf z (s.map .int) ∧ s.length = n ∧ PsOk n ps ∧ (∀ i ∈ s, i.natAbs < 2 ^ 100) ∧ (ps.map fun p => movedQ p s).all goodPc = false ∧ Cx = CF ∧ y = "shift")
theorem falses {ds : List PyData} : [] ++ ds.map (fun _ => PyData.bool false) = (ds.map fun _ => false).map .bool := by
  rw [List.nil_append, List.map_map]; rfl
theorem all_falses {ds : List PyData} (h : ds ≠ []) : (ds.map fun _ => false).all id = false := by
  cases ds with
  | nil => exact absurd rfl h
  | cons a l => rfl
theorem ok_movedX {C CM CN CF fM fN fF cdM ccM cdN ccN cdF ccF : Addr} (T : Tp K mg "moved" sMoved ["machine", "shift"] []) (M : McT K mg C) (B : Bl mg) (c_nm : C8.Cal P w K mg base 1 "need_machine" (spD K 2 (spNeedMachine C)) [.str "machine"]) (c_nmX : CalX P w K mg base 3 "need_machine" (spX K 2 (spNeedMachineX K C CM)) [.str "machine"])
    (TN : ExT P K mg "BadNumber" sBadNumI "BadNumber.__init__" fN CN cdN ccN) (FN : FnR P w K mg base CX0 1 fN (spExI CN)) (c_is_list : C8.Cal P w K mg base 1 "is_list" (spD K 1 spIsList) []) (c_is_integer : C8.Cal P w K mg base 1 "is_integer" (spD K 1 spIsInteger) [])
    (c_moved_piece : C8.Cal P w K mg base 6 "moved_piece" (spD K 2 spMovedPiece) []) (c_madeX : CalX P w K mg base 9 "made" (spX K 3 (spMadeX C CF)) []) : CalX P w K mg base 10 "moved" (spX K 2 (spMovedX K C CM CN CF)) [] := by
  refine d_okX (k := 9) T .nil scMoved rfl fun f cdv A outer s H E hr xs μ Cx y hl hd => ?_
  rcases hd with ⟨x, z, ex, hx, eC, ey⟩ | ⟨n, ps, z, ex, hn, hz, eC, ey⟩ | ⟨n, ps, z, sh, ex, hy, hsl, hps, hs, hgood, eC, ey⟩
  · subst ex; subst eC; subst ey
    exact rxs_ends (rx_expr (dx := [.d (.str "machine")]) c_nmX (fun G => .cons (.str _) .nil) tk_bx hr (by decide) (da_cons (dv 0 (da_nil ⟨rfl, rfl, x, rfl, hx, rfl, by decide⟩))))
  · subst ex; subst eC; subst ey
    refine rxs_cons (ds_expr (de_callD (dx := [.d (.str "machine")]) c_nm (fun G => .cons (.str _) .nil) hr (by decide) (da_cons (dv 0 (da_nil ⟨rfl, n, ps, _, rfl, rfl, ?_⟩)))))
    cases hz with
    | nol h1 h2 =>
      refine rxs_ifT (dt_w (dw_or (dt_not (dt_val (de_call c_is_list hr (by decide) (da_cons (dv 1 (da_nil ⟨rfl, _, false, rfl, h1, h2 _, false, rfl, ?_⟩))))))))
      refine iteT ⟨rfl, rfl, ?_⟩
      exact rxs_ends (rx_raise TN FN rfl tk_bx hr (by decide) (de_str ⟨rfl, rfl, by decide⟩))
    | @len ds h1 =>
      refine rxs_ifT (dt_w (dw_or (dt_not (dt_val (de_call c_is_list hr (by decide) (da_cons (dv 1 (da_nil ⟨rfl, ?_⟩))))))))
      refine ⟨.d (.list ds), true, rfl, rfl, trivial, true, rfl, ?_⟩
      refine iteF (dw_or (dt_cmp (dc_neI (de_len B.len (dv 1 ⟨_, rfl, de_fld M.cl M.nW (dv 0 ⟨_, _, rfl, rfl, _, _, rfl, rfl, _, rfl, ?_⟩)⟩)))))
      rw [decide_eq_false (by omega)]
      refine iteT ⟨rfl, rfl, ?_⟩
      exact rxs_ends (rx_raise TN FN rfl tk_bx hr (by decide) (de_str ⟨rfl, rfl, by decide⟩))
    | @el ds h0 h1 h2 =>
      refine rxs_ifT (dt_w (dw_or (dt_not (dt_val (de_call c_is_list hr (by decide) (da_cons (dv 1 (da_nil ⟨rfl, ?_⟩))))))))
      refine ⟨.d (.list ds), true, rfl, rfl, trivial, true, rfl, ?_⟩
      refine iteF (dw_or (dt_cmp (dc_neI (de_len B.len (dv 1 ⟨_, rfl, de_fld M.cl M.nW (dv 0 ⟨_, _, rfl, rfl, _, _, rfl, rfl, _, rfl, ?_⟩)⟩)))))
      rw [decide_eq_true (by rw [h1])]
      refine iteF (dw_or1 (dt_not (dt_val (de_all B.all (lc1 (E := E) 2 scMoved (di_list (dv 1 ⟨ds.map id, by rw [List.map_id], by rw [List.map_id]; omega, ?_⟩)))))))
      refine dlc_map (e := id) (g := fun _ => .bool false) ds [] (fun i hi => ⟨_, rfl, fun m s0 H0 C0 cl0 fp0 => ?_⟩) ?_
      · refine de_call c_is_integer hr (by decide) (da_cons (dv 2 (da_nil ⟨rfl, ?_⟩)))
        exact ⟨_, false, rfl, h2 _ hi, trivial, rfl, rfl⟩
      refine ⟨_, congrArg (fun l => SV.d (.list l)) falses, _, rfl, rfl, by rw [all_falses h0]; rfl, ?_⟩
      exact rxs_ends (rx_raise TN FN rfl tk_bx hr (by decide) (de_str ⟨rfl, rfl, by decide⟩))
  · subst ex; subst eC; subst ey
    obtain ⟨kd, hk⟩ := hy.seq
    refine rxs_cons (ds_expr (de_callD (dx := [.d (.str "machine")]) c_nm (fun G => .cons (.str _) .nil) hr (by decide) (da_cons (dv 0 (da_nil ⟨rfl, n, ps, _, rfl, rfl, ?_⟩)))))
    refine rxs_cons (ds_if (dt_w (dw_or (dt_not (dt_val (de_call c_is_list hr (by decide) (da_cons (dv 1 (da_nil ⟨rfl, _, true, rfl, hy.lst, trivial, true, rfl, ?_⟩)))))))))
    refine iteF (dw_or (dt_cmp (dc_neI (de_len B.len (dv 1 ⟨_, hy.items, de_fld M.cl M.nW (dv 0 ⟨_, _, rfl, rfl, _, _, rfl, rfl, _, rfl, ?_⟩)⟩)))))
    rw [decide_eq_true (by rw [List.length_map, hsl])]
    refine iteF (dw_or1 (dt_not (dt_val (de_all B.all (lc1 (E := E) 2 scMoved (di_seqV hy (dv 1 ⟨rfl, ?_, ?_⟩)))))))
    · rw [List.length_map, hsl]; have := hps.hn; omega
    refine dlc_map (e := .int) (g := fun _ => .bool true) sh [] (fun i hi => ⟨_, rfl, fun m s0 H0 C0 cl0 fp0 => ?_⟩) ?_
    · refine de_call c_is_integer hr (by decide) (da_cons (dv 2 (da_nil ⟨rfl, ?_⟩)))
      exact ⟨_, true, rfl, rfl, trivial, rfl, rfl⟩
    refine ⟨_, congrArg (fun l => SV.d (.list l)) ints_int, _, rfl, ?_⟩
    rw [all_map_true fun _ _ => rfl]
    refine iteF (dss_nil ⟨rfl, ?_⟩)
    refine rxs_ends (rx_ret (dx := []) c_madeX (fun G => .nil) tk_bx hr (by decide) (da_cons (dv 0 (da_cons (lc1 (E := E) 3 scMoved (di_tup (de_fld M.cl M.nP (dv 0 ⟨_, _, rfl, rfl, _, rfl, ?_, ?_⟩))))))))
    · rw [List.length_map]; have := hps.len; omega
    refine dlc_map (e := pieceD) (g := fun p => pieceD (movedQ p sh)) ps [] (fun p hp => ⟨_, rfl, fun m s0 H0 C0 cl0 fp0 => ?_⟩) ?_
    · obtain ⟨D, N, hi, h0, hD, hN⟩ := hps.bd p hp
      exact de_call c_moved_piece hr (by decide) (da_cons (dv 3 (da_cons (dv 1 (da_nil ⟨rfl, p, z, kd, sh, D, N, rfl, hk, hi, gd_of h0 hD, hN, hD, hs, rfl, rfl⟩)))))
    refine da_cons (de_str (da_nil ⟨rfl, rfl, n, ps, ps.map fun p => movedQ p sh, ?_, hps.hn, by rw [List.length_map]; exact hps.len, fun q hq => ?_, hgood, rfl, by decide⟩))
    · rw [List.nil_append]
      show _ = [_, SV.d (.list ((ps.map fun p => movedQ p sh).map pieceD)), _]
      rw [List.map_map]; rfl
    · obtain ⟨p, hp, rfl⟩ := List.mem_map.mp hq
      exact wd_moved (hps.wd p hp) hsl
def spMirroredX (K : PySem.W.Frag) (C CM CF : Addr) : List SV → Mu → Addr → Str → Prop := fun xs _ Cx y =>
  (∃ x, xs = [x] ∧ OddM K C x ∧ Cx = CM ∧ y = "machine") ∨
  (∃ n ps, xs = [.o C (mcF n ps)] ∧ PsOk n ps ∧ (ps.map mirQ).all goodPc = false ∧ Cx = CF ∧ y = "machine")
theorem ok_mirroredX {C CM CF : Addr} (T : Tp K mg "mirrored" sMirrored ["machine"] []) (M : McT K mg C) (B : Bl mg) (c_nm : C8.Cal P w K mg base 1 "need_machine" (spD K 2 (spNeedMachine C)) [.str "machine"]) (c_nmX : CalX P w K mg base 3 "need_machine" (spX K 2 (spNeedMachineX K C CM)) [.str "machine"])
    (c_mir : C8.Cal P w K mg base 4 "mirrored_piece" (spD K 1 spMirroredPiece) []) (c_madeX : CalX P w K mg base 9 "made" (spX K 3 (spMadeX C CF)) []) : CalX P w K mg base 10 "mirrored" (spX K 1 (spMirroredX K C CM CF)) [] := by
  refine d_okX (k := 9) T .nil scMirrored rfl fun f cdv A outer s H E hr xs μ Cx y hl hd => ?_
  rcases hd with ⟨x, ex, hx, eC, ey⟩ | ⟨n, ps, ex, hps, hgood, eC, ey⟩
  · subst ex; subst eC; subst ey
    exact rxs_ends (rx_expr (dx := [.d (.str "machine")]) c_nmX (fun G => .cons (.str _) .nil) tk_bx hr (by decide) (da_cons (dv 0 (da_nil ⟨rfl, rfl, x, rfl, hx, rfl, by decide⟩))))
  · subst ex; subst eC; subst ey
    refine rxs_cons (ds_expr (de_callD (dx := [.d (.str "machine")]) c_nm (fun G => .cons (.str _) .nil) hr (by decide) (da_cons (dv 0 (da_nil ⟨rfl, n, ps, _, rfl, rfl, ?_⟩)))))
    refine rxs_ends (rx_ret (dx := []) c_madeX (fun G => .nil) tk_bx hr (by decide) (da_cons (dv 0 (da_cons (lc1 (E := E) 1 scMirrored (di_tup (de_fld M.cl M.nP (dv 0 ⟨_, _, rfl, rfl, _, rfl, ?_, ?_⟩))))))))
    · rw [List.length_map]; have := hps.len; omega
    refine dlc_map (e := pieceD) (g := fun p => pieceD (mirQ p)) ps [] (fun p hp => ⟨_, rfl, fun m s0 H0 C0 cl0 fp0 => ?_⟩) ?_
    · obtain ⟨D, N, hi, h0, hD, hN⟩ := hps.bd p hp
      exact de_call c_mir hr (by decide) (da_cons (dv 1 (da_nil ⟨rfl, p, D, N, rfl, hi, gd_of h0 hD, pow100 hN (by decide), rfl, rfl⟩)))
    refine da_cons (de_str (da_nil ⟨rfl, rfl, n, ps, ps.map mirQ, ?_, hps.hn, by rw [List.length_map]; exact hps.len, fun q hq => ?_, hgood, rfl, by decide⟩))
    · rw [List.nil_append]
      show _ = [_, SV.d (.list ((ps.map mirQ).map pieceD)), _]
      rw [List.map_map]; rfl
    · obtain ⟨p, hp, rfl⟩ := List.mem_map.mp hq
      exact wd_mir (hps.wd p hp)
end
end T12
end
section
set_option Elab.async false
set_option linter.all false
set_option maxRecDepth 100000
set_option maxHeartbeats 4000000
set_option exponentiation.threshold 5000
namespace T12
open NdefX ClX StX
open PySem PySem.Spec PyProof.Rows L2
/-! ### a caught exception, held behind its suite -/
/-- at a: an exception that was raised, of class cls, its dict at d -/
def exk (cls : Value) (d : Option Addr) (a : Addr) : HO := .ext fun h => ∃ (oe : Obj) (vs : Array Value), h.get? a = some oe ∧ Zc cls d oe ∧ oe.data = .fields vs
section
variable {X : Cx} {pins : List (Addr × Obj)} {σ : L2.St} {H : Hp} {s : Shared}
/-- what is pinned is tracked from now on -/
theorem inv_track {a : Addr} {oe : Obj} {cls : Value} {d : Option Addr} {vs : Array Value} (I : Inv X ((a, oe) :: pins) σ H s) (n0 : X.s_0.heap.get? a = none) (np : ∀ p ∈ X.pn ++ pins, p.1 ≠ a) (hz : Zc cls d oe) (hd : oe.data = .fields vs) : Inv X pins σ (upd H a (exk cls d a)) s := by
  obtain ⟨ha, hH, hL, hF, hC⟩ := I.pin (a, oe) (List.mem_append_right _ List.mem_cons_self)
  have ne : ∀ {b : Addr} {o : HO}, H b = some o → b ≠ a := fun e => ne_of_none e hH
  refine ⟨I.ok, I.os, I.bare, ⟨I.base.keep, I.base.slot, fun b o e n hx => ?_, I.base.there, fun b xs e => ?_, fun b o v e => ?_, fun b ps e => ?_⟩, I.loc, I.cell, ?_, fun x c e => ?_, fun p hp => ?_, fun b o e => ?_, I.len⟩
  · rw [upd_ne (fun z => by rw [z, n0] at e; cases e)]
    exact I.base.free b o e n hx
  · have h := I.base.tups b xs e
    rw [upd_ne (ne h)]; exact h
  · have h := I.base.frzs b o v e
    rw [upd_ne (ne h)]; exact h
  · obtain ⟨more, h⟩ := I.base.tbls b ps e
    exact ⟨more, by rw [upd_ne (ne h)]; exact h⟩
  · rw [upd_ne (Ne.symm hL)]; exact I.free
  · have hne : c ≠ a := fun z => by
      obtain ⟨v, o, ho, hdd⟩ := I.cell x c e
      rw [z, ha] at ho
      cases ho
      exact hC v hdd
    rw [upd_ne hne]; exact I.freeC x c e
  · have hp' : p ∈ X.pn ++ (a, oe) :: pins := by
      rcases List.mem_append.mp hp with h | h
      · exact List.mem_append_left _ h
      · exact List.mem_append_right _ (List.mem_cons_of_mem _ h)
    obtain ⟨h1, h2, h3⟩ := I.pin p hp'
    exact ⟨h1, by rw [upd_ne (np p hp)]; exact h2, h3⟩
  · by_cases hb : b = a
    · subst hb
      rw [upd_same] at e
      cases e
      exact ⟨⟨oe, vs, ha, hz, hd⟩, ⟨oe, ha⟩, fun h1 h2 ⟨o, v, q, r⟩ k => ⟨o, v, k o q, r⟩⟩
    · rw [upd_ne hb] at e
      exact (I.hok b o e).stay (fun c v _ q => q) (fun c q => by rw [upd_ne (ne q)]; exact q) fun c xs q => by rw [upd_ne (ne q)]; exact q
end
/-- what the clause wishes: a caught one is tracked behind the suite, its name is gone -/
def wHold (K : PySem.W.Frag) (c : Value) (i l : Nat) (ts : Addr → Value → Option Addr → TS) (Wout : WX) (D : Ends) : WX := fun cls d σ H =>
  σ.length = l → ∃ b, PySem.W.exmOne K cls c = some b ∧ (b = true → ∀ a, H a = none → ts a cls d { nx := fun σ' H' => D.nx (σ'.set i none) (upd H' a (exk cls d a)), rt := fun _ _ => False, bk := fun _ _ => False, ct := fun _ _ => False } (σ.set i (some (.ref a))) H) ∧
    (b = false → Wout cls d σ H)
section
variable {X : Cx} {x n : Str} {c : Value} {i : Nat} {body suite : List Stmt} {b₀ : Stmt} {np pos pos' : Pos} {tb : WX → TS} {ts : Addr → Value → Option Addr → TS} {Wout : WX}
theorem ps_try_hold (hs : X.stack = X.env :: X.outer) (hf : X.env.frame = some X.env.locals) (hex : X.ex = []) (hN : X.N.Nodup) (hi : X.N[i]? = some n) (hln : X.env.kindOf n = some .local) (hc : Names X x c) (tk : Takes X Wout)
    (hb : ∀ (W : WX) (pn : List (Addr × Obj)) (xe : Value → Shared → Prop), Takes (X.tr pn xe) W → PassesOwn (model X.prog X.w) X.A X.env xe → PSs (X.tr pn xe) body (tb W))
    (hsu : ∀ (a : Addr) (oe : Obj) (cls : Value) (d : Option Addr) (pn : List (Addr × Obj)), Zc cls d oe → (∃ vs, oe.data = .fields vs) → PSs (X.suite a ((a, oe) :: pn)) (b₀ :: suite) (ts a cls d)) :
    PS X (.Try body [.ExceptHandler (some (.Name x np)) (some n) (b₀ :: suite) pos'] [] [] pos) (fun D σ H => tb (wHold X.K c i X.N.length ts Wout D) D σ H) := by
  refine ⟨fun pins s σ H D I h => ?_⟩
  have ok := I.ok
  have hfr : X.A.frames = some (X.env :: X.outer) := by rw [ok.frames, hs]
  have hloc : Loc X.env.scope n := .inl hln
  refine wpAny_Try_except ?_
  refine wpAny_mono ((hb (wHold X.K c i X.N.length ts Wout D) (X.pn ++ pins) (fun e s₁ => wpAny (model X.prog X.w) X.A (noteFrame e X.env) (fun _ s₂ => wpAny (model X.prog X.w) X.A (setFlight e none) (fun _ s₃ =>
    wpAny (model X.prog X.w) X.A (handleBy e X.env [.ExceptHandler (some (.Name x np)) (some n) (b₀ :: suite) pos']) (SP X pins D) X.xe s₃) X.xe s₂) X.xe s₁) (fun u s' xx => ?_) PassesOwn.looking).run [] s σ H D (I.toTry _) h) (fun f s1 hsp => ?_) (fun e s1 he => he)
  · -- the catch
    obtain ⟨a, B, sI, pins', σ', H', cls, d, rfl, J', nb, up, sky, na, os, ag, hxx⟩ := xx
    have J : Inv X pins σ' H' sI := J'.ofTry ok
    obtain ⟨b, hb1, hyes, hno⟩ := hxx J.len
    have sky' : Sky B (X.env :: X.outer) a (Zc cls d) X.env.locals s'.heap := by rw [← hs]; exact sky
    show wpAny (model X.prog X.w) X.A (noteFrame (.ref a) X.env) _ _ _
    refine Sky.land Zc.steady hfr hf sky' fun h3 fl3 up3 => ?_
    have J3 : Inv X pins σ' H' { s' with heap := h3 } := J.landed nb fl3.1 (up.trans up3) os ag
    obtain ⟨oe3, vs3, he3, hz3, hd3⟩ := fl3.there
    have notFr : ∀ {h : Heap} {o : Obj} {vs : Array Value}, h.FunFrames B (X.env :: X.outer) → h.get? a = some o → o.data = .fields vs → a ∉ frs (X.env :: X.outer) := fun {h o vs} ff e dd hm => by
      obtain ⟨_, o', e', hnf⟩ := ff.mem hm
      rw [e] at e'; cases e'
      exact hnf _ dd
    have nfr := notFr fl3.2.2.1 he3 hd3
    have nL : a ≠ X.env.locals := fun z => nfr (List.mem_filterMap.mpr ⟨X.env, List.mem_cons_self, by rw [hf, z]⟩)
    have nF : a ∉ X.fs := fun hm => by
      obtain ⟨e, he, q⟩ := List.mem_filterMap.mp hm
      exact nfr (List.mem_filterMap.mpr ⟨e, List.mem_cons_of_mem _ he, q⟩)
    have nBa : B.get? a = none := fl3.2.1
    have nIa : sI.heap.get? a = none := by
      cases e : sI.heap.get? a with
      | none => rfl
      | some o =>
        have := nb a o e (by rw [hs]; exact nfr)
        rw [nBa] at this; cases this
    have n0 : X.s_0.heap.get? a = none := by
      cases e : X.s_0.heap.get? a with
      | none => rfl
      | some o =>
        obtain ⟨o', e'⟩ := J.base.there a o e (by rw [hex]; exact fun z => nomatch z)
        rw [nIa] at e'; cases e'
    have npa : ∀ p ∈ X.pn ++ pins, p.1 ≠ a := fun p hp z => by
      have := (J.pin p hp).1
      rw [z, nIa] at this; cases this
    have S3 := J3.suite he3 hd3 na nL nF
    refine wpAny_handleBy_cons (codeAny_handlers_test ?_) (by intro q; cases q)
    have LT : PySem.W.Looks (model X.prog X.w) h3 (typeOf (.ref a)) cls := fun A Q E s k q => wpAny_typeOf_ref (k _ _ he3) (by rw [hz3.1]; exact q)
    have LM := PySem.W.exm_one (M := model X.prog X.w) (J3.kIn) LT hb1
    have test : ∀ {Q : Value → Shared → Prop} {E : Value → Shared → Prop}, Q c { s' with heap := h3 } → wpAny (model X.prog X.w) (X.A.mark (some (.ref a))) (eval (.Name x np) X.env) Q E { s' with heap := h3 } := fun {Q E} q => by
      obtain ⟨hg, hdbg, hm | ⟨hm, hv, hnn⟩⟩ := hc
      · exact ld_glob (X := X.suite a ((a, oe3) :: (X.pn ++ pins))) S3 hg hm q hdbg
      · exact ld_blt (X := X.suite a ((a, oe3) :: (X.pn ++ pins))) S3 hg hm hv q hnn hdbg
    refine test (LM.here ?_)
    cases b with
    | true =>
      refine codeAny_handlers_suite_as ?_
      refine HandSPX.lands_againZ fl3 fun h4 fl4 up4 => ?_
      have J4 : Inv X pins σ' H' { s' with heap := h4 } := J.landed nb fl4.1 ((up.trans up3).trans up4) os ag
      obtain ⟨oe4, vs4, he4, hz4, hd4⟩ := fl4.there
      have S4 := J4.suite he4 hd4 na nL nF
      refine store_ok (X := X.suite a ((a, oe4) :: (X.pn ++ pins))) (v := .ref a) S4 hN hi hloc rfl (fun s5 S5 => ?_) (.inr hln)
      refine wpAny_mono ((hsu a oe4 cls d (X.pn ++ pins) hz4 ⟨_, hd4⟩).run [] s5 _ H' _ S5 (hyes rfl a na)) (fun f s6 hsp => ?_) (fun _ _ z => False.elim z)
      cases f with
      | next =>
        obtain ⟨σ6, H6, S6, q6⟩ := hsp
        have U6 : Inv X ((a, oe4) :: pins) σ6 H6 s6 := ⟨ok, S6.os, S6.bare, S6.base, S6.loc, S6.cell, S6.free, S6.freeC, fun p hp => S6.pin p (List.mem_append_left _ (by
          rcases List.mem_append.mp hp with h | h
          · exact List.mem_cons_of_mem _ (List.mem_append_left _ h)
          · rcases List.mem_cons.mp h with h | h
            · rw [h]; exact List.mem_cons_self
            · exact List.mem_cons_of_mem _ (List.mem_append_right _ h))), S6.hok, S6.len⟩
        exact gone_ok U6 hN hi hln fun s7 J7 => ⟨_, _, inv_track J7 n0 npa hz4 hd4, q6⟩
      | brk =>
        obtain ⟨σ6, H6, S6, q6⟩ := hsp
        exact q6.elim
      | cont =>
        obtain ⟨σ6, H6, S6, q6⟩ := hsp
        exact q6.elim
      | ret u =>
        obtain ⟨v6, σ6, H6, S6, r6, q6⟩ := hsp
        exact q6.elim
    | false =>
      show wpAny _ X.A (handleBy (.ref a) X.env []) _ _ _
      refine wpAny_handleBy_nil ?_
      obtain ⟨k1, k2, k3, oe, vs, T, oT, ts', he, hz, hd, h1, hr⟩ := id fl3
      unfold PySem.passOn
      refine wpAny_bind (wpAny_field he hd h1 ?_)
      rw [if_neg (show ¬ ((Value.ref T == Value.none) = true) from by simp)]
      have fin : wpAny (model X.prog X.w) X.A (setFlight (.ref a) X.env.frame) (fun _ s4 => wpAny (model X.prog X.w) X.A (throw (.ref a) : Sem Flow) (SP X pins D) X.xe s4) X.xe { s' with heap := h3 } := by
        rw [hf]
        refine HandSPX.setFlight_upZ fl3 fun h4 hh4 up4 => wpAny_throw (tk _ _ ?_)
        exact ⟨a, B, sI, pins, σ', H', cls, d, rfl, J, nb, (up.trans up3).trans up4, .inr (.inr (by rw [hs]; exact hh4)), na, os, ag, hno rfl⟩
      first
        | exact wpAny_bind (wpAny_pure (wpAny_bind fin))
        | exact wpAny_bind fin
  · cases f with
    | next =>
      obtain ⟨σ', H', J', q⟩ := hsp
      exact wpAny_execs_nil ⟨σ', H', J'.ofTry ok, q⟩
    | brk =>
      obtain ⟨σ', H', J', q⟩ := hsp
      exact ⟨σ', H', J'.ofTry ok, q⟩
    | cont =>
      obtain ⟨σ', H', J', q⟩ := hsp
      exact ⟨σ', H', J'.ofTry ok, q⟩
    | ret u =>
      obtain ⟨v, σ', H', J', r, q⟩ := hsp
      exact ⟨v, σ', H', J'.ofTry ok, r, q⟩
end
end T12
end
section
set_option Elab.async false
set_option linter.all false
set_option maxRecDepth 100000
set_option maxHeartbeats 4000000
set_option exponentiation.threshold 5000
namespace PySem.W
open PySem PySem.Spec PySem.Calls PyProof.Rows
section
variable {prog : Program} {w : World} {A : Around} {E : Value → Shared → Prop} {s : Shared} {K : Frag} {x D : Addr} {ox : Obj} {od : Option Obj}
theorem t12_dataO {C : Addr} {name : Str} {a g : Value} (hc : (clsIn K C).isSome = true) (ha : findIn K (.ref C) name = some (some a)) (hg : specialIn K a "__get__" = some (some g)) (ht : takesIn K a = some true) : findObj K C od name = some (.bind g a) := by
  obtain ⟨cd, hc⟩ := Option.isSome_iff_exists.mp hc
  unfold findObj
  rw [hc, Option.bind_some, ha, Option.bind_some]
  simp [hg, ht]
theorem t12_classE {Q : Option Value → Shared → Prop} (hga : findIn K (.ref D) "__getattribute__" = some (some (.builtin "BaseException.__getattribute__"))) (hgt : findIn K (.ref D) "__getattr__" = some none) (hsub : subIn K (.ref D) (.type "BaseException") = some true)
    (hdct : hasDictIn K D = true) (ha : findIn K (.ref D) "__class__" = some (some (.builtin "object.__class__")))
    (hn : specialIn K (.builtin "object.__class__") "__get__" = some (some (.builtin "getset_descriptor.__get__"))) (htk : takesIn K (.builtin "object.__class__") = some true) (hm : mroIn K D (.type "object") = some true)
    (X : K.In s.heap) (I : InstAt s.heap x ox D od) (h : Q (some (.ref D)) { s with toks := s.toks + 1 }) : wpAny (model prog w) A (getAttr? (.ref x) "__class__") Q E s := by
  have hf : findObj K D od "__class__" = some (.bind (.builtin "getset_descriptor.__get__") (.builtin "object.__class__")) := t12_dataO (by obtain ⟨cd, hc, _⟩ := any_some hdct; rw [hc]; rfl) ha hn htk
  obtain ⟨hp, g, d, t, os⟩ := s
  have L0 := I.type (M := model prog w)
  have L1 := looks_findIn (M := model prog w) X hga
  have L2 := looks_findIn (M := model prog w) X hgt
  have L3 := looks_find (M := model prog w) X I hf
  have sub : Looks (model prog w) hp (isInstance (.ref x) (.type "BaseException")) true := L0.andThen (looks_subIn X hsub)
  have hx0 : (false && onTheHeap (Value.builtin "BaseException.__getattribute__")) = false := rfl
  have hx2 : (Value.builtin "BaseException.__getattribute__" == Value.builtin "object.__getattribute__") = false := by decide +kernel
  have hx1 : (onTheHeap (Value.ref D) && Value.builtin "BaseException.__getattribute__" == Value.builtin "object.__getattribute__") = false := by rw [hx2]; rfl
  unfold getAttr? getAttrBy? getAttrBy
  refine wpAny_bind (wpAny_mkText (wpAny_bind (wpAny_attempt (wpAny_holding (wpAny_bind (L0.at (wpAny_bind (L1.at ?_))))))))
  show wpAny _ _ (if (onTheHeap (Value.ref D) && Value.builtin "BaseException.__getattribute__" == Value.builtin "object.__getattribute__") = true then _ else _) _ _ _
  rw [hx1, if_neg Bool.false_ne_true]
  unfold getAttrByItsOwn hookBefore
  refine wpAny_bind ?_
  rw [if_pos (show onTheHeap (Value.ref D) = true from rfl)]
  refine L2.at ?_
  refine wpAny_bind (wpAny_attempt (wpAny_holding ?_))
  unfold callGetattribute
  rw [hx0, if_neg Bool.false_ne_true]
  unfold boundAndCalled
  rw [PySem.F.excAttr_ValueError.ga.bind (.ref x)]
  refine wpAny_bind (wpAny_pure ?_)
  show wpAny _ _ (call (.builtin "BaseException.__getattribute__") [.ref x, .str "__class__" t]) _ _ _
  refine wpAny_call (codeAny_call_builtin PySem.F.excAttr_ValueError.ga.plain PySem.F.entry_bexc_ga ?_)
  refine @check_slot (model prog w) _ _ ⟨hp, g, d, t + 1, os⟩ "BaseException.__getattribute__" "BaseException" "__getattribute__" (.ref x) [.str "__class__" t] [] _ (by decide +kernel) (by decide +kernel) sub (PySem.F.args_bexc_ga (.ref x) (.str "__class__" t)) ?_
  unfold Builtin.«object.__getattribute__»
  refine wpAny_bind (wpAny_of_eq (a := ((Value.ref x : Value), [Value.str "__class__" t])) (by first | rfl | (simp only [slotArgs]; rfl)) ?_)
  refine wpAny_bind (wpAny_pure (wpAny_bind (L0.at (wpAny_bind (L3.at ?_)))))
  show wpAny _ _ (holding [Value.builtin "object.__class__"] (call (.builtin "getset_descriptor.__get__") [.builtin "object.__class__", .ref x, .ref D]) >>= ret) _ _ _
  refine wpAny_bind (wpAny_holding (wpAny_call (class_get (s := ⟨hp, g, d, t + 1, os⟩) (ox := ox) (od := od) X I hm ?_)))
  refine wpAny_pure ?_
  show wpAny _ _ (handedOut (.ref D)) _ _ _
  rw [handedOut_of (v := .ref D) rfl]
  first
    | exact wpAny_pure (wpAny_pure h)
    | exact wpAny_pure h
    | exact wpAny_pure (wpAny_bind (wpAny_pure (wpAny_pure h)))
theorem t12_kitx (hga : findIn K (.ref D) "__getattribute__" = some (some (.builtin "BaseException.__getattribute__"))) (hgt : findIn K (.ref D) "__getattr__" = some none) (hsub : subIn K (.ref D) (.type "BaseException") = some true) (hdct : hasDictIn K D = true) (ha : findIn K (.ref D) "__class__" = some (some (.builtin "object.__class__")))
    (hn : specialIn K (.builtin "object.__class__") "__get__" = some (some (.builtin "getset_descriptor.__get__"))) (htk : takesIn K (.builtin "object.__class__") = some true) (hm : mroIn K D (.type "object") = some true) :
    KitX K (.ref x) (.ref D) (fun h => InstAt h x ox D od) where
  ty := fun _ _ _ I => I.type
  it := fun _ _ X _ => by
    obtain ⟨cdD, hcD, _⟩ := any_some hdct
    unfold clsIn at hcD
    split at hcD
    · rename_i c' d' cd' sl' ho
      intro A' Q' E' s' k q
      unfold isType loadHead
      exact wpAny_bind (wpAny_loadPart (k _ _ (X _ _ ho)) (wpAny_pure q))
    · cases hcD
  ne := fun h tp dd its n sl X htp => by
    obtain ⟨cdD, hcD, _⟩ := any_some hdct
    refine Bool.eq_false_iff.mpr fun q => ?_
    have e : D = tp := Value.ref.inj (beq_iff_eq.mp q)
    subst e
    unfold clsIn at hcD
    split at hcD
    · rename_i c' d' cd' sl' ho
      have z := (X _ _ ho).symm.trans htp
      cases z
    · cases hcD
  ca := fun X I k => t12_classE hga hgt hsub hdct ha hn htk hm X I k
end
end PySem.W
namespace T12
open NdefX ClX StX
open PySem PySem.Spec PyProof.Rows L2
/-- this exception, held -/
def excR (C : Addr) (y : Str) : PrR := ⟨fun G v => ∃ a dd, v = .ref a ∧ G a = some (exk (.ref C) (some dd) a) ∧ G dd = some (.xd [("part", .str y)]), fun _ _ _ e ⟨a, dd, h1, h2, h3⟩ => ⟨a, dd, h1, e _ _ h2, e _ _ h3⟩⟩
theorem exk_inst {X : Cx} {pins : List (Addr × Obj)} {σ : L2.St} {H : Hp} {s : Shared} {a C dd : Addr} {fs : List (Str × V)} (I : Inv X pins σ H s) (ha : H a = some (exk (.ref C) (some dd) a)) (hd : H dd = some (.xd fs)) : ∃ oe od mA, PySem.W.InstAt s.heap a oe C (some od) ∧ s.heap.get? dd = some od ∧ s.heap.Ns1 dd mA ∧ (∀ f, RelO (fs.lookup f) (mA f)) ∧ ∀ n, PySem.W.lookIn n od = some (mA n) := by
  obtain ⟨⟨oe, vs, h1, hz, hf⟩, _, _⟩ : ObjOk X.prog X.w H s.heap a (.ext fun h => ∃ (oe : Obj) (vs : Array Value), h.get? a = some oe ∧ Zc (.ref C) (some dd) oe ∧ oe.data = .fields vs) := I.hok a _ ha
  have hx : ObjOk X.prog X.w H s.heap dd (.xd fs) := I.hok dd _ hd
  obtain ⟨mA, hns, hr⟩ := hx
  obtain ⟨od, ho, hl⟩ := lookIn_ns hns
  refine ⟨oe, od, mA, ⟨h1, hz.1, by unfold PySem.W.notCls; rw [hf] <;> rfl, by rw [hz.2]; exact ho⟩, ho, hns, hr, fun n => hl n⟩
section
variable {X : Cx} {ρ : Sl} {μ : Mu} {Q : SV → Mu → Prop} {e : Expr} {pos p p2 : Pos} {C : Addr} {y : Str}
theorem call_isH : CallR X (.builtin "isinstance") (fun xs H Q => ∃ (a D dd : Addr) (fs : List (Str × V)) (c : V) (cv : Value) (b : Bool), xs = [.ref a, c] ∧ H a = some (exk (.ref D) (some dd) a) ∧ H dd = some (.xd fs) ∧ ExcC X.K D ∧ (∀ u, L2.RelV c u → u = cv) ∧ PySem.W.kitOne X.K (.ref D) cv = some b ∧ Q (.bl b) H) := by
  intro pins s σ H xs us Q I r h
  obtain ⟨a, D, dd, fs, c, cv, b, rfl, ha, hd, C, hcv, e, q⟩ := h
  obtain ⟨u1, u2, rfl, rx, rt⟩ := vals2 r
  cases (show u1 = Value.ref a from rx)
  have ec := hcv _ rt
  subst ec
  obtain ⟨oe, od, mA, J, _⟩ := exk_inst I ha hd
  exact PySem.W.kia_one (PySem.W.t12_kitx C.hg C.hk C.hs C.hd C.ha C.hn C.ht C.hm) I.kIn J e (fun z => nomatch z) fun tk => ⟨.bl b, H, I.kept (t' := tk) fun _ _ z => z, rfl, q⟩
/-- isinstance(held, C') -/
theorem de_isHeld {cn : Str} {D : Addr} (hm : X.mg "isinstance" = none) (hc : X.mg cn = some (.ref D)) (E : ExcC X.K C) (h : DE X e ρ μ fun x m => x = .pr (excR C y) ∧ ∃ b, PySem.W.kitOne X.K (.ref C) (.ref D) = some b ∧ Q (.d (.bool b)) m) (hg : Gl X "isinstance" := by rfl) (hgT : Gl X cn := by rfl)
    (hd : (cn == ("__debug__" : Str)) = false := by decide)
    (he : starEach (e :: [.Name cn p2]) X.env = (false, eval e X.env) :: starEach [.Name cn p2] X.env := by rfl) (he2 : starEach [.Name cn p2] X.env = (false, eval (.Name cn p2) X.env) :: starEach [] X.env := by rfl) (hpl : (backTo pos (starEach [.Name cn p2] X.env)).any (·.1) = false := by rfl) :
    DE X (.Call (.Name "isinstance" p) [e, .Name cn p2] [] pos) ρ μ Q := fun σ H R Qc k =>
  cE_of (pe_callB call_isH hg hm (by decide +kernel) (pa_cons (pe_k e) (pa_cons (C8.pe_gc (v := .ref D) hgT ⟨_, hc, rfl⟩ hd) pa_nil he2) he) (by decide) (by decide) he hpl)
    (h σ H R _ fun x m v H1 ⟨ex, b, hb, q⟩ e1 m1 r1 => by
      subst ex
      obtain ⟨a, dd, rfl, h1, h2⟩ := r1
      exact ⟨a, C, dd, _, .ref D, .ref D, b, rfl, hid_le _ _ h1, hid_le _ _ h2, E, fun u hu => hu, hb, k _ m _ H1 q e1 m1 (.bl _)⟩)
/-- held.part -/
theorem de_part (T : XfC X.K C) (hno : PySem.W.findIn X.K (.ref C) "part" = some none) (h : DE X e ρ μ fun x m => x = .pr (excR C y) ∧ Q (.d (.str y)) m) (hb : attributeBase e "part" X.env (eval e X.env) = eval e X.env := by rfl) : DE X (.Attribute e "part" pos) ρ μ Q := fun σ H R Qc k pins s I => by
  refine attr_of hb (thn (h σ H R (fun v H1 => ∃ a dd, v = .ref a ∧ H1 a = some (exk (.ref C) (some dd) a) ∧ H1 dd = some (.xd [("part", .str y)]) ∧ Qc (.str y) H1) (fun x m v H1 ⟨ex, q⟩ e1 m1 r1 => by
    subst ex
    obtain ⟨a, dd, rfl, h1, h2⟩ := r1
    exact ⟨a, dd, rfl, hid_le _ _ h1, hid_le _ _ h2, k _ m _ H1 q e1 m1 (.str _)⟩) pins s I) fun u s1 ⟨x, H1, I1, rx, a, dd, ex, h1, h2, q⟩ => ?_)
  subst ex
  obtain rfl : u = Value.ref a := rx
  obtain ⟨oe, od, mA, J, _, _, hr, hl⟩ := exk_inst I1 h1 h2
  obtain ⟨u, hu, ru⟩ := RelO.some_of (v := .str y) (o := mA "part") (hr "part")
  exact HandSPX.exc_get I1.kIn J T.ga T.gg T.exC (PySem.W.findObj_own T.hdC hno rfl (by rw [hl, hu])) (handed_of ru) ⟨.str y, H1, I1.tok _, ru, q⟩
end
end T12
end
section
set_option Elab.async false
set_option linter.all false
set_option maxRecDepth 100000
set_option maxHeartbeats 4000000
set_option exponentiation.threshold 5000
namespace T12
open NdefX ClX StX
open PySem PySem.Spec PyProof.Rows L2
abbrev sLawHeard : Stmt := topS 91
abbrev nHeard : List Str := ["_law_ask", "_law_caught", "error"]
theorem scLawHeard : FnScope nHeard ["_law_ask"] (C8.fnScope sLawHeard) := ⟨rfl, rfl, rfl, by decide +kernel, rfl, by decide +kernel, by decide +kernel⟩
/-- what the written part must say of the classes of exceptions -/
structure HeardT (K : PySem.W.Frag) (mg : Str → Option Value) (CT CM CN CF : Addr) : Prop where
  mgT : mg "TileError" = some (.ref CT)
  mgM : mg "BadMachine" = some (.ref CM)
  mgN : mg "BadNumber" = some (.ref CN)
  mgF : mg "Misfit" = some (.ref CF)
  exM : PySem.W.exmOne K (.ref CM) (.ref CT) = some true
  exN : PySem.W.exmOne K (.ref CN) (.ref CT) = some true
  exF : PySem.W.exmOne K (.ref CF) (.ref CT) = some true
  kMM : PySem.W.kitOne K (.ref CM) (.ref CM) = some true
  kNM : PySem.W.kitOne K (.ref CN) (.ref CM) = some false
  kFM : PySem.W.kitOne K (.ref CF) (.ref CM) = some false
  kNN : PySem.W.kitOne K (.ref CN) (.ref CN) = some true
  kFN : PySem.W.kitOne K (.ref CF) (.ref CN) = some false
  kFF : PySem.W.kitOne K (.ref CF) (.ref CF) = some true
  k0M : PySem.W.kitOne K (.type "NoneType") (.ref CM) = some false
  k0N : PySem.W.kitOne K (.type "NoneType") (.ref CN) = some false
  k0F : PySem.W.kitOne K (.type "NoneType") (.ref CF) = some false
  ecM : ExcC K CM
  ecN : ExcC K CN
  ecF : ExcC K CF
  xfM : XfC K CM
  xfN : XfC K CN
  xfF : XfC K CF
  pM : PySem.W.findIn K (.ref CM) "part" = some none
  pN : PySem.W.findIn K (.ref CN) "part" = some none
  pF : PySem.W.findIn K (.ref CF) "part" = some none
def HearsAs (CM CN CF C : Addr) (wd : Str) : Prop := (C = CM ∧ wd = "machine") ∨ (C = CN ∧ wd = "number") ∨ (C = CF ∧ wd = "misfit")
abbrev mu0 : Mu := fun _ => none
theorem hid0 (H : Hp) : hid H mu0 = H := by funext b; rfl
theorem muok0 (H : Hp) : MuOk mu0 H := fun a ds e => by cases e
section
variable {P : Program} {w : World} {K : PySem.W.Frag} {mg : Str → Option Value} {base : Heap}
/-- behind the try, an exception held -/
theorem heard_rest {CT CM CN CF C : Addr} {wd y : Str} {f : Addr} {cdv : Value} {A : Around} {outer : List Env} {s : Shared} {H : Hp} {E : XK} (T : HeardT K mg CT CM CN CF) (hB : mg "isinstance" = none) (hC : HearsAs CM CN CF C wd) (r0 : Option SV) :
    DSs (BD P w K mg base nHeard "_law_heard" sLawHeard f cdv A outer s H E) (List.drop 2 (C8.fnBody sLawHeard)) [r0, some (.pr (excR C y)), none] mu0 { nx := fun _ _ => False, rt := fun x m => m = mu0 ∧ x = .d (.tuple [.str wd, .str y]) } := by
  rcases hC with ⟨rfl, rfl⟩ | ⟨rfl, rfl⟩ | ⟨rfl, rfl⟩
  · refine dss_cons (ds_if (dt_val (de_isHeld hB T.mgM T.ecM (dv 1 ⟨rfl, true, T.kMM, true, rfl, iteT ?_⟩))))
    exact dss_cons (ds_ret (de_tup (da_cons (de_str (da_cons (de_part T.xfM T.pM (dv 1 ⟨rfl, da_nil ⟨_, rfl, rfl, rfl, rfl⟩⟩)))))))
  · refine dss_cons (ds_if (dt_val (de_isHeld hB T.mgM T.ecN (dv 1 ⟨rfl, false, T.kNM, false, rfl, iteF (dss_nil ?_)⟩))))
    refine dss_cons (ds_if (dt_val (de_isHeld hB T.mgN T.ecN (dv 1 ⟨rfl, true, T.kNN, true, rfl, iteT ?_⟩))))
    exact dss_cons (ds_ret (de_tup (da_cons (de_str (da_cons (de_part T.xfN T.pN (dv 1 ⟨rfl, da_nil ⟨_, rfl, rfl, rfl, rfl⟩⟩)))))))
  · refine dss_cons (ds_if (dt_val (de_isHeld hB T.mgM T.ecF (dv 1 ⟨rfl, false, T.kFM, false, rfl, iteF (dss_nil ?_)⟩))))
    refine dss_cons (ds_if (dt_val (de_isHeld hB T.mgN T.ecF (dv 1 ⟨rfl, false, T.kFN, false, rfl, iteF (dss_nil ?_)⟩))))
    refine dss_cons (ds_ret (de_if (dt_val (de_isHeld hB T.mgF T.ecF (dv 1 ⟨rfl, true, T.kFF, true, rfl, iteT ?_⟩)))))
    exact de_tup (da_cons (de_str (da_cons (de_part T.xfF T.pF (dv 1 ⟨rfl, da_nil ⟨_, rfl, rfl, rfl, rfl⟩⟩)))))
/-- .. nothing held -/
theorem heard_none {CT CM CN CF : Addr} {f : Addr} {cdv : Value} {A : Around} {outer : List Env} {s : Shared} {H : Hp} {E : XK} (T : HeardT K mg CT CM CN CF) (hB : mg "isinstance" = none) (r0 r2 : Option SV) :
    DSs (BD P w K mg base nHeard "_law_heard" sLawHeard f cdv A outer s H E) (List.drop 2 (C8.fnBody sLawHeard)) [r0, some (.d .none), r2] mu0 { nx := fun _ _ => False, rt := fun x m => m = mu0 ∧ x = .d .none } := by
  have no : ∀ (D : Addr) (QQ : SV → Mu → Prop), PySem.W.kitOne K (.type "NoneType") (.ref D) = some false → QQ (.d (.bool false)) mu0 → (∃ t b, tyN (.d .none) = some t ∧ known mu0 (.d .none) ∧ PySem.W.kitOne K (.type t) (.ref D) = some b ∧ QQ (.d (.bool b)) mu0) := fun D QQ h q => ⟨"NoneType", false, rfl, trivial, h, q⟩
  refine dss_cons (ds_if (dt_val (de_isOwn (C := CM) hB T.mgM (dv 1 (.inl (no _ _ T.k0M ⟨false, rfl, iteF (dss_nil ?_)⟩))))))
  refine dss_cons (ds_if (dt_val (de_isOwn (C := CN) hB T.mgN (dv 1 (.inl (no _ _ T.k0N ⟨false, rfl, iteF (dss_nil ?_)⟩))))))
  refine dss_cons (ds_ret (de_if (dt_val (de_isOwn (C := CF) hB T.mgF (dv 1 (.inl (no _ _ T.k0F ⟨false, rfl, iteF ?_⟩)))))))
  exact de_if (dt_cmp (dc_isN (dv 1 ⟨true, rfl, true, rfl, iteT (de_non ⟨rfl, rfl⟩)⟩)))
/-- what _law_heard makes of what it is given -/
def TTheard (CM CN CF : Addr) : (XK → Hp → VK → Prop) → Hp → VK → Prop := fun tl H Q => ∀ H1, Ex H H1 → ∀ QQ : VK, (∀ v H', (∀ H'', Ex H' H'' → Q .non H'') → QQ v H') →
  tl (fun cls d H' => ∃ C dd y wd, cls = .ref C ∧ d = some dd ∧ H' dd = some (.xd [("part", .str y)]) ∧ HearsAs CM CN CF C wd ∧ ∀ t H'', Ex H' H'' → H'' t = some (.tup [.str wd, .str y]) → Q (.ref t) H'') H1 QQ
theorem exm_of {K : PySem.W.Frag} {mg : Str → Option Value} {CT CM CN CF C : Addr} {wd : Str} (T : HeardT K mg CT CM CN CF) (h : HearsAs CM CN CF C wd) : PySem.W.exmOne K (.ref C) (.ref CT) = some true := by
  rcases h with ⟨rfl, _⟩ | ⟨rfl, _⟩ | ⟨rfl, _⟩
  · exact T.exM
  · exact T.exN
  · exact T.exF
theorem len3 {α : Type} {l : List α} (h : l.length = 3) : ∃ a b c, l = [a, b, c] := by
  match l, h with
  | [a, b, c], _ => exact ⟨a, b, c, rfl⟩
theorem bd_takes0 {P : Program} {w : World} {K : PySem.W.Frag} {mg : Str → Option Value} {base : Heap} {N : List Str} {x : Str} {st : Stmt} {f : Addr} {cdv : Value} {A : Around} {outer : List Env} {s : Shared} {H : Hp} {E : XK} : Takes (BD P w K mg base N x st f cdv A outer s H E) (fun _ _ _ _ => False) := LamX.takes0
theorem heard_gives {X : Cx} {CT CM CN CF g : Addr} {cdg : Value} {q : Str} (T : HeardT X.K X.mg CT CM CN CF) (hB : X.mg "isinstance" = none) : LamX.GivesTo X nHeard "_law_heard" (C8.fnScope sLawHeard) g cdg (C8.fnBody sLawHeard) "_law_ask" q (TTheard CM CN CF) := by
  intro f c' s H Q tl act hc h
  let Y := BD X.prog X.w X.K X.mg X.base nHeard "_law_heard" sLawHeard g cdg X.A X.stack s H C8.E0
  let D : Ends := { nx := fun _ H' => Q .non H', rt := Q }
  let rest : TS := cSs Y (List.drop 2 (C8.fnBody sLawHeard))
  refine ⟨_, pss_cons (X := Y) (ps_k _) (pss_cons (ps_try_hold (X := Y) (x := "TileError") (n := "error") (c := .ref CT) (i := 2) (Wout := fun _ _ _ _ => False)
      (tb := fun W D σ H => ∃ Ech : XK, (∀ cls d σ' H', Ech cls d H' → W cls d σ' H') ∧ σ[0]? = some (some (.ref f)) ∧ H c' = some (LamX.CodeO c' q) ∧ tl Ech H (fun _ H' => D.nx σ H'))
      rfl rfl rfl scLawHeard.nd rfl rfl ⟨rfl, by decide, .inl T.mgT⟩ bd_takes0 (fun W pn xe tk _ => ?_) (fun a oe cls d pn _ _ => pss_one (ps_set (i := 1) scLawHeard.nd rfl (.inl rfl) (pe_var (i := 2) rfl (.inl rfl))))) (pss_k _)), ?_⟩
  · refine ⟨fun pins s' σ H' D I h' => ?_⟩
    obtain ⟨Ech, hW, h1, h2, h3⟩ := h'
    exact (pss_one (ps_expr (act W pn xe Ech _ _ tk hW))).run pins s' σ H' D I ⟨h1, h2, h3⟩
  · -- the reading
    have rep0 : Rep X.K (startD nHeard [.pr (isR f)]) mu0 (L2.start nHeard [.ref f]) H := rep_start (muok0 H) (.cons (show V.ref f = V.ref f from rfl) .nil)
    refine (ds_set (X := Y) (Φ := { nx := fun ρ m => m = mu0 ∧ ρ = [some (.pr (isR f)), some (.d .none), none], rt := fun _ _ => False }) (i := 1) scLawHeard.nd (de_non ⟨rfl, rfl⟩)) _ _ rep0 _ ⟨fun ρ' μ' σ1 H1 ⟨em, eρ⟩ e1 R1 => ?_, fun _ _ _ _ q => q.elim, fun _ _ _ _ q => q.elim, fun _ _ _ _ q => q.elim⟩
    subst em; subst eρ
    rw [hid0, hid0] at e1
    obtain ⟨v0, hv0, rv0⟩ := R1.sl 0 _ rfl
    cases (show v0 = .ref f from rv0)
    refine ⟨_, fun cls d σ' H' ⟨C, dd, y, wd, ec, ed, hd, hC, hQ⟩ hlen => ⟨true, by rw [ec]; exact exm_of T hC, fun _ a ha => ?_, fun z => by cases z⟩, hv0, e1 _ _ hc, h H1 e1 _ fun v H' hq => ?_⟩
    · refine heard_none (s := s) (H := H) (A := X.A) (outer := X.stack) (f := g) (cdv := cdg) (E := C8.E0) (P := X.prog) (w := X.w) (base := X.base) T hB none none _ _ ?_ _ ⟨fun _ _ _ _ q => q.elim, fun x m v H2 ⟨em, ex⟩ e3 m3 r3 => ?_, fun _ _ _ _ q => q.elim, fun _ _ _ _ q => q.elim⟩
      · obtain ⟨v1, hv1, rv1⟩ := R1.sl 1 _ rfl
        cases (show Dv _ v1 .none from rv1)
        refine ⟨fun i x e => ?_, muok0 _, R1.len⟩
        match i, e with
        | 0, e => cases e
        | 1, e =>
          cases e
          exact ⟨.non, hv1, .non⟩
        | 2, e => cases e
        | i + 3, e => simp at e
      · subst em; subst ex
        rw [hid0, hid0] at e3
        cases r3
        exact hq _ e3
    · subst ec; subst ed
      obtain ⟨s0, s1, s2, rfl⟩ := len3 (show σ'.length = 3 from hlen)
      refine ⟨.ref a, rfl, ?_⟩
      have hne : dd ≠ a := fun z => by rw [z, ha] at hd; cases hd
      have e2 : Ex H' (upd H' a (exk (.ref C) (some dd) a)) := fun b o hb => by rw [upd_ne (ne_of_none hb ha)]; exact hb
      have rep : Rep X.K [none, some (.pr (excR C y)), none] mu0 [s0, some (.ref a), none] (upd H' a (exk (.ref C) (some dd) a)) := by
        refine ⟨fun i x e => ?_, muok0 _, rfl⟩
        match i, e with
        | 0, e => cases e
        | 1, e =>
          cases e
          exact ⟨.ref a, rfl, a, dd, rfl, by rw [hid0]; exact upd_same, by rw [hid0, upd_ne hne]; exact hd⟩
        | 2, e => cases e
        | i + 3, e => simp at e
      refine heard_rest (s := s) (H := H) (A := X.A) (outer := X.stack) (f := g) (cdv := cdg) (E := C8.E0) (P := X.prog) (w := X.w) (base := X.base) T hB hC none _ _ rep _ ⟨fun _ _ _ _ q => q.elim, fun x m v H2 ⟨em, ex⟩ e3 m3 r3 => ?_, fun _ _ _ _ q => q.elim, fun _ _ _ _ q => q.elim⟩
      subst em; subst ex
      rw [hid0, hid0] at e3
      cases r3 with
      | tup g1 g2 =>
        cases g2 with
        | cons r1 t =>
          cases t with
          | cons r2 t =>
            cases t
            cases r1
            cases r2
            rw [hid0] at g1
            exact hQ _ _ (e2.trans e3) g1
end
end T12
end
section
set_option Elab.async false
set_option linter.all false
set_option maxRecDepth 100000
set_option maxHeartbeats 4000000
set_option exponentiation.threshold 5000
/-! a lambda with one default value (an int): turned from KE.KLam and HandS.Lambda, where none stands -/
namespace PySem.W
open PySem PySem.Spec PySem.Calls PyProof.Rows
abbrev lmd_fn (name qual : Str) (params : Arguments) (body : Expr) (scope : Scope) (cl : List (Str × Addr)) (dV pm cdv ct : Value) : FuncData :=
  { name, qualname := qual, params, body := .expr body, scope, globals := mainGlobals, closure := cl, defaults := dV, kwdefaults := .none, doc := .none, pyModule := pm, annotations := none, code := cdv, closureTuple := ct, builtins := builtinsNs }
abbrev lmd_obj (name qual : Str) (params : Arguments) (body : Expr) (scope : Scope) (clos : List (Str × Addr)) (dV pm : Value) (c' : Addr) (ctv : Value) : Obj :=
  { cls := .type "function", data := .func (lmd_fn name qual params body scope clos dV pm (.ref c') ctv) }
section
variable {M : Model} {A : Around} {E : Value → Shared → Prop} {s : Shared} {name qual : Str} {params : Arguments} {body : Expr} {scope : Scope} {env : Env} {c P : Addr} {ps : Array Value} {pos : Pos} {firstLine : Nat} {mg : Str → Option Value}
  {clos : List (Str × Addr)} {Q : Value → Shared → Prop} {dV : Value}
theorem lmd_makeTail (hcl : closureFor scope env = pure clos) (hge0 : env.globals = mainGlobals) (hg : s.heap.Ns mainGlobals mg) (hcode : env.code = .ref c) (C : CodeHd s.heap c P) (hP : s.heap.get? P = some (tabObj ps)) (ht : TriplesOk ps.toList)
    (hnf : codeAmong pos ps.toList = none) (hgP : mainGlobals ≠ P) (hb : s.heap.BuiltinsAt mg P)
    (h : ∀ c' ctv h' tk, Heap.ExtBut P s.heap h' → s.heap.objs.size ≤ c' → c' < h'.objs.size → h'.CodeRec (.ref c') qual → h'.get? P = some (tabObj (ps ++ #[rawInt pos.line, rawInt pos.col, .ref c'])) →
      Q (.ref h'.objs.size) { s with heap := h'.push (lmd_obj name qual params body scope clos dV ((mg "__name__").getD .none) c' ctv), toks := tk }) :
    wpAny M A (makeTail name qual params (.expr body) scope env dV .none none pos firstLine) Q E s := by
  obtain ⟨bm, ob, hbm, hne0, _, hneP, hbo, hcls, hdict, hdata⟩ := hb
  unfold makeTail
  rw [hcl, hge0]
  refine wpAny_bind (wpAny_pure ?_)
  cases clos with
  | nil =>
    simp only [List.isEmpty_nil, if_true]
    refine wpAny_bind (wpAny_pure ?_)
    refine wpAny_bind (wpAny_functionCodeX hcode (C.code hP ht) (C.tab hP) hnf fun c' h' tk hx hge hlt _ hrec htb _ => ?_)
    have hg' := hg.extBut hx hgP
    refine wpAny_bind (wpAny_builtinsFor hg' hbm hne0 (hx _ _ hneP hbo) hcls hdict hdata ?_)
    refine wpAny_bind (wpAny_nsGet hg' ?_)
    exact wpAny_bind (wpAny_pure (wpAny_newObj_type (h c' .none h' tk hx hge hlt hrec htb.2) (by size_fits)))
  | cons q r =>
    simp only [List.isEmpty_cons, Bool.false_eq_true, if_false]
    refine wpAny_bind (wpAny_newTextTuple ?_)
    refine wpAny_bind (wpAny_functionCodeX hcode ((C.keeps fun b o e => Heap.get?_push_of_some _ e).code (Heap.get?_push_of_some _ hP) ht) ((C.keeps fun b o e => Heap.get?_push_of_some _ e).tab (Heap.get?_push_of_some _ hP)) hnf fun c' h' tk hx hge hlt _ hrec htb _ => ?_)
    have hg' := (hg.push _).extBut hx hgP
    have hx' : Heap.ExtBut P s.heap h' := fun b o hb' e => hx b o hb' (Heap.get?_push_of_some _ e)
    have hge' : s.heap.objs.size ≤ c' := Nat.le_trans (by rw [Heap.size_push]; omega) hge
    refine wpAny_bind (wpAny_builtinsFor hg' hbm hne0 (hx' _ _ hneP hbo) hcls hdict hdata ?_)
    refine wpAny_bind (wpAny_nsGet hg' ?_)
    exact wpAny_bind (wpAny_pure (wpAny_newObj_type (h c' _ h' tk hx' hge' hlt hrec htb.2) (by size_fits)))
theorem lmd_makeTailHit {cv : Value} (hcl : closureFor scope env = pure clos) (hge0 : env.globals = mainGlobals) (hg : s.heap.Ns mainGlobals mg) (hcode : env.code = .ref c) (C : CodeHd s.heap c P) (hP : s.heap.get? P = some (tabObj ps)) (ht : TriplesOk ps.toList)
    (hf : codeAmong pos ps.toList = some cv) (hb : s.heap.BuiltinsAt mg P)
    (h : ∀ (ctv : Value) (h' : Heap) (tk : Tok), (∀ b o, s.heap.get? b = some o → h'.get? b = some o) → s.heap.objs.size ≤ h'.objs.size →
      Q (.ref h'.objs.size) { s with heap := h'.push { cls := .type "function", data := .func (lmd_fn name qual params body scope clos dV ((mg "__name__").getD .none) cv ctv) }, toks := tk }) :
    wpAny M A (makeTail name qual params (.expr body) scope env dV .none none pos firstLine) Q E s := by
  obtain ⟨bm, ob, hbm, hne0, _, hneP, hbo, hcls, hdict, hdata⟩ := hb
  unfold makeTail
  rw [hcl, hge0]
  refine wpAny_bind (wpAny_pure ?_)
  cases clos with
  | nil =>
    simp only [List.isEmpty_nil, if_true]
    refine wpAny_bind (wpAny_pure ?_)
    refine wpAny_bind (wpAny_functionCode_hit hcode (C.code hP ht) hf ?_)
    refine wpAny_bind (wpAny_builtinsFor hg hbm hne0 hbo hcls hdict hdata ?_)
    refine wpAny_bind (wpAny_nsGet hg ?_)
    exact wpAny_bind (wpAny_pure (wpAny_newObj_type (h .none s.heap s.toks (fun _ _ e => e) (Nat.le_refl _)) (by size_fits)))
  | cons q r =>
    simp only [List.isEmpty_cons, Bool.false_eq_true, if_false]
    refine wpAny_bind (wpAny_newTextTuple ?_)
    refine wpAny_bind (wpAny_functionCode_hit hcode ((C.keeps fun b o e => Heap.get?_push_of_some _ e).code (Heap.get?_push_of_some _ hP) ht) hf ?_)
    refine wpAny_bind (wpAny_builtinsFor (hg.push _) hbm hne0 (Heap.get?_push_of_some _ hbo) hcls hdict hdata ?_)
    refine wpAny_bind (wpAny_nsGet (hg.push _) ?_)
    have hsz : ∀ oT : Obj, s.heap.objs.size ≤ (s.heap.push oT).objs.size := fun oT => by rw [Heap.size_push]; omega
    exact wpAny_bind (wpAny_pure (wpAny_newObj_type (h _ _ s.toks (fun b o e => Heap.get?_push_of_some _ e) (hsz _)) (by size_fits)))
/-- lambda x=i: body -/
theorem lmd_eval {ar : Arg} {i : Int} {j : Nat} {p0 : Pos} {env : Env} (h : ∀ tk t0, wpAny M A (makeTail "<lambda>" (env.qual ++ "<lambda>") ⟨[], [ar], none, [], [], none, [.Constant (.int i) j p0]⟩ (.expr body) scope env (.ref s.heap.objs.size) .none none pos pos.line) Q E { s with heap := s.heap.push { cls := .type "tuple", data := .seq [Value.int i tk].toArray }, toks := t0 }) :
    wpAny M A (eval (.Lambda ⟨[], [ar], none, [], [], none, [.Constant (.int i) j p0]⟩ body scope pos) env) Q E s := by
  rw [arm_eval_Lambda]
  show wpAny M A (do let dv ← evalAll [eval (.Constant (.int i) j p0) env]; let kdv ← holding dv (evalAllOpt []); makeFunction "<lambda>" (env.qual ++ "<lambda>") _ (.expr body) scope env dv kdv [] pos pos.line) Q E s
  refine wpAny_bind ?_
  show wpAny M A (do let v ← eval (.Constant (.int i) j p0) env; return v :: (← holding [v] (evalAll []))) _ E s
  refine wpAny_bind (wpAny_Constant_int ?_)
  refine wpAny_bind (wpAny_holding (wpAny_pure (wpAny_pure ?_)))
  refine wpAny_bind (wpAny_holding (wpAny_pure ?_))
  rw [makeFunction_eq]
  simp only [List.zip_nil_right, List.filterMap_nil, List.isEmpty_nil, List.isEmpty_cons, if_true, pure_bind, Bool.false_eq_true, if_false]
  refine wpAny_bind (wpAny_newTextTuple ?_)
  exact h _ _
end
end PySem.W
end
section
set_option Elab.async false
set_option linter.all false
set_option maxRecDepth 100000
set_option maxHeartbeats 4000000
set_option exponentiation.threshold 5000
namespace T12
open NdefX ClX StX LamX
open PySem PySem.Spec PyProof.Rows L2
abbrev lmdPar (ar : Arg) (i : Int) (j : Nat) (p0 : Pos) : Arguments := ⟨[], [ar], none, [], [], none, [.Constant (.int i) j p0]⟩
section
variable {X : Cx} {pins : List (Addr × Obj)} {σ : L2.St} {H : Hp} {s : Shared}
theorem lmd_make {T : List (Addr × Str)} {c P : Addr} {ar : Arg} {i : Int} {j : Nat} {p0 : Pos} {body : Expr} {scope : Scope} {pos : Pos} {E : Value → Shared → Prop} {Q : Value → Shared → Prop} (I : Inv X pins σ H s) (TB : TabB X.base X.mg c P) (hcode : X.env.code = .ref c)
    (hm : (P, X.env.qual ++ "<lambda>") ∈ T) (hu : ∀ p ∈ T, p.1 = P → p.2 = X.env.qual ++ "<lambda>") (hT : Tabs T H) (hfree : ∀ y ∈ scope.names, y.2 = .free → ∃ c, X.env.cells.lookup y.1 = some c)
    (h : ∀ (f c' t : Addr) (pm ctv : Value) (H1 : Hp) (s' : Shared), Inv X pins σ H1 s' → ExtN H H1 → Tabs T H1 →
      s'.heap.get? f = some (PySem.W.lmd_obj "<lambda>" (X.env.qual ++ "<lambda>") (lmdPar ar i j p0) body scope (cloFrom X.env.cells scope.names []) (.ref t) pm c' ctv) → H1 f = none → f ∉ frs X.stack → H1 c' = some (CodeO c' (X.env.qual ++ "<lambda>")) → H1 t = some (.tup [.int i]) → Q (.ref f) s') :
    wpAny (model X.prog X.w) X.A (eval (.Lambda (lmdPar ar i j p0) body scope pos) X.env) Q E s := by
  refine PySem.W.lmd_eval fun tk0 t0 => ?_
  have ht0 : H s.heap.objs.size = none := I.hok.fresh (Nat.le_refl _)
  have I0 : Inv X pins σ (upd H s.heap.objs.size (.tup [.int i])) { s with heap := s.heap.push { cls := .type "tuple", data := .seq [Value.int i tk0].toArray }, toks := t0 } :=
    I.laid (t' := t0) (fun b u e => Heap.get?_push_of_some _ e) (Nat.le_refl _) ⟨by show 1 ≤ sizeLine; decide, [Value.int i tk0], .cons ⟨tk0, rfl⟩ .nil, ⟨_, Heap.get?_push_size _ rfl, rfl, _, rfl⟩⟩
  have E0' : ∀ b o, H b = some o → upd H s.heap.objs.size (.tup [.int i]) b = some o := fun b o e => by rw [upd_ne (ne_of_none e ht0)]; exact e
  have hT0 : Tabs T (upd H s.heap.objs.size (.tup [.int i])) := hT.ext E0'
  have hE0 : ExtN H (upd H s.heap.objs.size (.tup [.int i])) := ExtN.of E0'
  have hTt : (upd H s.heap.objs.size (.tup [.int i])) s.heap.objs.size = some (.tup [.int i]) := upd_same
  generalize s.heap.objs.size = t at hTt hT0 hE0 I0 ⊢
  generalize upd H t (.tup [.int i]) = H0 at hTt hT0 hE0 I0
  generalize ({ s with heap := s.heap.push { cls := .type "tuple", data := .seq [Value.int i tk0].toArray }, toks := t0 } : Shared) = s0 at I0
  obtain ⟨ps, hP, ht, ha⟩ := hT0 _ hm
  have bP : s0.heap.BuiltinsAt X.mg P := TB.bm.keeps I0.bk
  have hP' : s0.heap.get? P = some { cls := .none, data := .fields ps } := I0.hok P _ hP
  have nofr : ∀ f, s0.heap.objs.size ≤ f → f ∉ frs X.stack := fun f hf z => by
    rcases List.mem_cons.mp (I0.stkSub _ z) with e | e
    · have h1 := I0.lt
      rw [← e] at h1
      exact Nat.lt_irrefl _ (Nat.lt_of_lt_of_le h1 hf)
    · exact I0.nofs hf e
  cases hc : codeAmong pos ps.toList with
  | none =>
    refine PySem.W.lmd_makeTail (mg := X.mg) (c := c) (P := P) (ps := ps) (closure_ok hfree) I0.ok.glob (I0.mod.glob.keeps I0.bk) hcode (TB.code.keeps I0.bk) hP' ht hc TB.gP bP fun c' ctv h' tk hx hge hlt hrec htb => ?_
    obtain ⟨c2, oc, vs, t', e2, hoc, hd, hv⟩ := hrec
    cases e2
    have hsz : s0.heap.objs.size ≤ h'.objs.size := Nat.le_trans hge (Nat.le_of_lt hlt)
    have nC : H0 c' = none := I0.hok.fresh hge
    have I1 := inv_table (t' := tk) (more := #[rawInt pos.line, rawInt pos.col, .ref c']) (h' := h'.push (PySem.W.lmd_obj "<lambda>" (X.env.qual ++ "<lambda>") (lmdPar ar i j p0) body scope (cloFrom X.env.cells scope.names []) (.ref t) ((X.mg "__name__").getD .none) c' ctv)) I0 hP
      (fun b o hb e => Heap.get?_push_of_some _ (hx b o hb e)) (Heap.get?_push_of_some _ htb) hge ⟨oc, vs, t', Heap.get?_push_of_some _ hoc, hd, hv⟩
    have hE : ExtN H0 (upd (upd H0 P (.tbl (ps ++ #[rawInt pos.line, rawInt pos.col, .ref c']))) c' (CodeO c' (X.env.qual ++ "<lambda>"))) := fun b o e n => by
      rw [upd_ne (ne_of_none e nC), upd_ne (fun z => n ps (Option.some.inj (e.symm.trans (by rw [z]; exact hP))))]
      exact e
    have eL : (ps ++ #[rawInt pos.line, rawInt pos.col, .ref c']).toList = ps.toList ++ [rawInt pos.line, rawInt pos.col, .ref c'] := by simp
    refine h h'.objs.size c' t ((X.mg "__name__").getD .none) ctv _ _ I1 (hE0.trans hE) (fun p hp => ?_) (Heap.get?_push_size _ rfl) ?_ (nofr _ hsz) upd_same (hE _ _ hTt fun ps z => by cases z)
    · by_cases hb : p.1 = P
      · rw [hu p hp hb, hb]
        refine ⟨_, by rw [upd_ne (ne_of_none hP nC), upd_same], by rw [eL]; exact PySem.TriplesOk_snoc _ _ _ _ ht, fun p' cv hcv => ?_⟩
        rw [eL] at hcv
        rcases among_app _ ht hcv with z | z
        · obtain ⟨c0, e1, e2⟩ := ha p' cv z
          exact ⟨c0, e1, hE _ _ e2 codeO_ne⟩
        · exact ⟨c', z, upd_same⟩
      · obtain ⟨ps', a1, a2, a3⟩ := hT0 p hp
        refine ⟨ps', by rw [upd_ne (ne_of_none a1 nC), upd_ne hb]; exact a1, a2, fun p' cv hcv => ?_⟩
        obtain ⟨c0, e1, e2⟩ := a3 p' cv hcv
        exact ⟨c0, e1, hE _ _ e2 codeO_ne⟩
    · have n1 : h'.objs.size ≠ c' := Nat.ne_of_gt hlt
      have n2 : h'.objs.size ≠ P := Nat.ne_of_gt (Nat.lt_of_lt_of_le (Heap.lt_size hP') hsz)
      rw [upd_ne n1, upd_ne n2]
      exact I0.hok.fresh hsz
  | some cv =>
    obtain ⟨c', e, hco⟩ := ha pos cv hc
    subst e
    refine PySem.W.lmd_makeTailHit (mg := X.mg) (c := c) (P := P) (ps := ps) (closure_ok hfree) I0.ok.glob (I0.mod.glob.keeps I0.bk) hcode (TB.code.keeps I0.bk) hP' ht hc bP fun ctv h' tk hx hsz => ?_
    have I1 : Inv X pins σ H0 { s0 with heap := h'.push (PySem.W.lmd_obj "<lambda>" (X.env.qual ++ "<lambda>") (lmdPar ar i j p0) body scope (cloFrom X.env.cells scope.names []) (.ref t) ((X.mg "__name__").getD .none) c' ctv), toks := tk } := I0.kept fun b o e => Heap.get?_push_of_some _ (hx b o e)
    exact h h'.objs.size c' t ((X.mg "__name__").getD .none) ctv H0 _ I1 hE0 hT0 (Heap.get?_push_size _ rfl) (I0.hok.fresh hsz) (nofr _ hsz) hco hTt
end
/-- one parameter with a default, no other name of its own: captured ones and globals -/
structure LamD (N : List Str) (sc scope : Scope) (a : Str) : Prop where
  kind : scope.kind = .function
  co : scope.isCoroutine = false
  gen : scope.isGenerator = false
  cell : ∀ y ∈ scope.names, y.2 ≠ .cell
  own : ∀ y ∈ scope.names, y.2 = .local → y.1 ∉ N
  par : scope.names.lookup a = some .local
  free : ∀ y ∈ scope.names, y.2 = .free → sc.names.lookup y.1 = some .cell ∨ sc.names.lookup y.1 = some .free
def lamDB (N : List Str) (sc scope : Scope) (a : Str) : Bool :=
  decide (scope.kind = .function) && !scope.isCoroutine && !scope.isGenerator && decide (scope.names.lookup a = some .local) && scope.names.all fun y => !decide (y.2 = .cell) && (!decide (y.2 = .local) || !decide (y.1 ∈ N)) && (!decide (y.2 = .free) || decide (sc.names.lookup y.1 = some .cell) || decide (sc.names.lookup y.1 = some .free))
theorem lamD_by {N : List Str} {sc scope : Scope} {a : Str} (h : lamDB N sc scope a = true) : LamD N sc scope a := by
  unfold lamDB at h
  simp only [Bool.and_eq_true, Bool.or_eq_true, Bool.not_eq_true', decide_eq_true_eq, decide_eq_false_iff_not, List.all_eq_true] at h
  obtain ⟨⟨⟨⟨h1, h2⟩, h3⟩, h5⟩, h4⟩ := h
  refine ⟨h1, h2, h3, fun y hy => (h4 y hy).1.1, fun y hy e => ?_, h5, fun y hy e => ?_⟩
  · rcases (h4 y hy).1.2 with z | z
    · exact absurd e z
    · exact z
  · rcases (h4 y hy).2 with (z | z) | z
    · exact absurd e z
    · exact .inl z
    · exact .inr z
theorem LamD.has {X : Cx} {scope : Scope} {a : Str} (L : LamD X.N X.env.scope scope a) (ok : X.Ok) : ∀ y ∈ scope.names, y.2 = .free → ∃ c, X.env.cells.lookup y.1 = some c := fun y hy e => by
  rcases L.free y hy e with k | k
  · exact ok.has _ (.inl k)
  · exact ok.has _ (.inr k)
section
variable {X : Cx} {pins : List (Addr × Obj)} {σ : L2.St} {H HZ : Hp} {s s1 : Shared}
theorem lmd_start {A : Around} {outer : List Env} {E : XK} {scope : Scope} {f c' : Addr} {h₁ : Heap} {tk : Nat} {a : Str} {bs : List (Str × Value)} (I : Inv X pins σ H s) (L : LamD X.N X.env.scope scope a) (e0 : Env0 X.prog X.w X.K X.mg X.base A outer s1 HZ) (hd : A.handled = none)
    (un : Un (frs X.stack) [] H HZ s.heap s1.heap) (hns : h₁.Ns s1.heap.objs.size fun y => bs.reverse.lookup y) (kp : ∀ b o, s1.heap.get? b = some o → h₁.get? b = some o) :
    Inv (lamCx X A outer s1 HZ E scope f c') [] σ HZ { s1 with heap := h₁, toks := tk } := by
  have hfree := L.has I.ok
  have cm : ∀ {y c}, (cloFrom X.env.cells scope.names []).lookup y = some c → X.env.cells.lookup y = some c := fun {y c} e => by
    rcases cloFrom_mem (PySem.mem_of_lookup e) with hm | ⟨h1, h2⟩
    · cases hm
    · obtain ⟨c1, hc⟩ := hfree _ h1 rfl
      have hc : X.env.cells.lookup y = some c1 := hc
      have e2 : c = c1 := by
        rw [h2, hc] <;> rfl
      rw [e2]
      exact hc
  have look : ∀ {y}, scope.names.lookup y = some .free → ∃ c, (cloFrom X.env.cells scope.names []).lookup y = some c := fun {y} hl => by
    have hy : (y, NameKind.free) ∈ scope.names := PySem.mem_of_lookup hl
    exact mem_lookup (cloFrom_has (cells := X.env.cells) (acc := []) hy)
  have cellK : ∀ {c : Addr} {v : Option Value}, H c = none → s.heap.IsCell c v → h₁.IsCell c v := fun {c v} n ⟨o, ho, hd⟩ => by
    obtain ⟨sl, q⟩ := un.any ho n (by simp)
    exact ⟨_, kp _ _ q, hd⟩
  have noA : ∀ b : Addr, b ∉ (lamCx X A outer s1 HZ E scope f c').ex := fun b z => absurd (show b ∈ ([] : List Addr) from z) (by simp)
  refine ⟨⟨e0.mod, L.kind, rfl, rfl, Nat.le_refl _, fun y z c e1 e2 => I.ok.inj y z c (cm e1) (cm e2), fun y hy => ?_, fun y c z _ => ?_, fun _ => hd, Around.frames_deeper e0.frames, .inr ⟨rfl, rfl⟩, fun b z => absurd z (noA b), e0.bs, e0.bsz, fun b _ _ => noA b,
      fun b z => absurd z (noA b), e0.funs, e0.frf⟩,
    rfl, e0.bare, Un.kept kp, ⟨_, hns, fun i y v e1 e2 e3 => ?_⟩, fun y c e => ?_, e0.hok.fresh (Nat.le_refl _), fun y c e => ?_, fun q hq => absurd (show q ∈ ([] : List (Addr × Obj)) ++ [] from hq) (by simp), e0.hok.kept kp, I.len⟩
  · have hy : scope.names.lookup y = some .cell ∨ scope.names.lookup y = some .free := hy
    rcases hy with hy | hy
    · exact absurd rfl (L.cell _ (PySem.mem_of_lookup hy))
    · exact look hy
  · have z : false = true := z
    cases z
  · have e3 : Vis scope y := e3
    rcases e3 with k | k | k
    · exact absurd (List.mem_of_getElem? e1) (L.own _ (PySem.mem_of_lookup k) rfl)
    · exact absurd rfl (L.cell _ (PySem.mem_of_lookup k))
    · obtain ⟨m, hn, hl⟩ := I.loc
      have hvis : Vis X.env.scope y := (L.free _ (PySem.mem_of_lookup k) rfl).elim (fun k => .inr (.inl k)) (fun k => .inr (.inr k))
      obtain ⟨w', r, q⟩ := hl i y v e1 e2 hvis
      obtain ⟨c2, h2⟩ := look k
      refine ⟨w', r, .inr ⟨.inr k, c2, h2, ?_⟩⟩
      have c1 := cm h2
      rcases q with ⟨k', _⟩ | ⟨_, c3, e', z⟩
      · have k' : X.env.scope.names.lookup y = some .local := k'
        rcases L.free _ (PySem.mem_of_lookup k) rfl with k2 | k2 <;> rw [show X.env.scope.names.lookup y = _ from k2] at k' <;> cases k'
      · rw [c1] at e'
        cases e'
        exact cellK (I.freeC y _ c1) z
  · obtain ⟨w', z⟩ := I.cell y c (cm e)
    exact ⟨w', cellK (I.freeC y c (cm e)) z⟩
  · obtain ⟨v, o, ho, hd⟩ := I.cell y c (cm e)
    exact un.free c o ho (I.freeC y c (cm e)) (by simp)
/-- x(), in the def that got the lambda -/
theorem pe_actD {CXg : CXT} {Eg : XK} {Ng : List Str} {qg : Str} {sg : Scope} {g f c' t : Addr} {cdg pm ctv : Value} {ar : Arg} {i0 : Int} {j0 : Nat} {p0 : Pos} {body : Expr} {scope : Scope} {k i : Nat} {a : Str} {pn : List (Addr × Obj)} {xe : Value → Shared → Prop} {W : WX} {E : XK} {tb : TE} {p1 p2 : Pos}
    (I : Inv X pins σ H s) (L : LamD X.N X.env.scope scope ar.arg) (hf : s.heap.get? f = some (PySem.W.lmd_obj "<lambda>" (X.env.qual ++ "<lambda>") (lmdPar ar i0 j0 p0) body scope (cloFrom X.env.cells scope.names []) (.ref t) pm c' ctv)) (hfn : H f = none) (hfr : f ∉ frs X.stack)
    (hbind : ∀ u : Value, ∃ kk, bindArgs (PySem.W.lmd_fn "<lambda>" (X.env.qual ++ "<lambda>") (lmdPar ar i0 j0 p0) body scope (cloFrom X.env.cells scope.names []) (.ref t) pm (.ref c') ctv) ⟨[], []⟩ = seqItems? (.ref t) >>= kk ∧ kk (some #[u]) = pure [(ar.arg, u)])
    (tk : Takes ((cxOf CXg X.prog X.w X.K X.mg X.base Ng qg sg g cdg X.A X.stack s H Eg).tr pn xe) W) (hW : ∀ cls d σ' H', E cls d H' → W cls d σ' H') (hr : Room (k + 1) (X.A.deeper (envOfC qg sg s.heap.objs.size g cdg)))
    (hbody : ∀ (A : Around) (outer : List Env) (s : Shared) (H : Hp), Room k (A.deeper (lamEnv X scope s.heap.objs.size f c')) → PE (lamCx X A outer s H E scope f c') body tb)
    (hN : Ng[i]? = some a) (hv : Vis sg a) (hd : (a == ("__debug__" : Str)) = false := by decide) (hcd : (a == ("__classdict__" : Str)) = false := by decide) :
    PE ((cxOf CXg X.prog X.w X.K X.mg X.base Ng qg sg g cdg X.A X.stack s H Eg).tr pn xe) (.Call (.Name a p1) [] [] p2)
      (fun σZ HZ Q => σZ[i]? = some (some (.ref f)) ∧ HZ c' = some (CodeO c' (X.env.qual ++ "<lambda>")) ∧ HZ t = some (.tup [.int i0]) ∧ tb σ HZ Q) := by
  refine ⟨fun pinsZ sZ σZ HZ Q IZ h => ?_⟩
  obtain ⟨hs, hc, htt, ht⟩ := h
  refine wpAny_Call_Name_kw (thn ((pe_var (pos := p1) (i := i) hN hv hd hcd).run pinsZ sZ σZ HZ (fun v H1 => v = .ref f ∧ H1 = HZ) IZ ⟨.ref f, hs, rfl, rfl⟩) fun u s1 ⟨v, H1, I1, r1, q1⟩ => ?_)
  obtain ⟨ev, eH⟩ := q1
  subst ev
  rw [eH] at I1
  obtain rfl : u = Value.ref f := r1
  have of1 : s1.heap.get? f = some (PySem.W.lmd_obj "<lambda>" (X.env.qual ++ "<lambda>") (lmdPar ar i0 j0 p0) body scope (cloFrom X.env.cells scope.names []) (.ref t) pm c' ctv) := I1.base.keep f _ hf hfn hfr (fun z => nomatch (show f ∈ ([] : List Addr) from z))
  refine PySem.W.callWith_F0 ⟨_, _, _, _, of1⟩ ?_
  have un : Un (frs X.stack) [] H HZ s.heap s1.heap := I1.base
  obtain ⟨⟨oc, vs, t', hoc, hdc, hvc⟩, _, _⟩ := I1.hok c' _ hc
  obtain ⟨_, its, rv, ⟨ot, hot, hct, n, hdt⟩⟩ : ObjOk X.prog X.w HZ s1.heap t (.tup [.int i0]) := I1.hok t _ htt
  have rc : codeAny (model X.prog X.w) (X.A.deeper (envOfC qg sg s.heap.objs.size g cdg)) (.call (.ref f) ⟨[], []⟩) (CR (L2.CX X.prog X.w) (envOfC qg sg s.heap.objs.size g cdg :: X.stack) X.prog X.w HZ s1 Q E) s1 := by
    refine PySem.W.kla_callFunE hr.depth of1 rfl L.co L.gen rfl ⟨c', oc, vs, t', rfl, hoc, hdc, hvc⟩ ?_
    cases rv with
    | @cons _ u1 _ ur r1 r2 =>
      cases r2
      obtain ⟨kk, e1, e2⟩ := hbind u1
      rw [e1]
      refine wpAny_bind (wpAny_seqItems hot hdt ?_)
      rw [show (some [u1].toArray : Option (Array Value)) = some #[u1] from rfl, e2]
      refine wpAny_pure (wpAny_newFunctionEnv (fun y hy => L.cell y hy) (fun y hy => ?_) (fun h₁ hns hsb => ⟨I1.nolimit.fresh _ hsb, ?_⟩) L.kind)
      · rw [List.mem_singleton] at hy; rw [hy]; exact L.par
      show codeAny _ _ (.expr body (lamEnv X scope s1.heap.objs.size f c')) _ _
      have kp : ∀ b o, s1.heap.get? b = some o → h₁.get? b = some o := fun b o e => hsb.extBut b o (Nat.ne_of_lt (Heap.lt_size e)) (Heap.get?_push_of_some _ e)
      have J : Inv (lamCx X (X.A.deeper (envOfC qg sg s.heap.objs.size g cdg)) (envOfC qg sg s.heap.objs.size g cdg :: X.stack) s1 HZ E scope f c') [] σ HZ { s1 with heap := h₁, toks := s1.toks + [(ar.arg, u1)].length } :=
        lmd_start I L I1.env0 hr.hd un hns kp
      refine PySem.W.kla_codeExpr (wpAny_mono ((hbody _ _ s1 HZ (hr.deeper _)).run [] _ _ HZ Q J ht) (fun v s' hq => ?_) fun e s' hq => hq)
      obtain ⟨w', H', J', rv, q⟩ := hq
      exact ⟨w', H', J'.os, J'.bare, J'.base, J'.hok, rv, q⟩
  have hx : Passes (L2.CX X.prog X.w) ((cxOf CXg X.prog X.w X.K X.mg X.base Ng qg sg g cdg X.A X.stack s H Eg).tr pn xe) E := passes_call tk hW
  refine wpAny_call (codeAny_mono rc fun r s' hq => ?_)
  cases r with
  | error e => exact hx pinsZ σZ HZ s1 e s' I1 hq
  | ok fl =>
    cases fl with
    | ret u => exact I1.after hq
    | next => exact False.elim hq
    | brk => exact False.elim hq
    | cont => exact False.elim hq
end
def tLamD (T : List (Addr × Str)) (i : Int) (TT : (XK → Hp → VK → Prop) → Hp → VK → Prop) (t : XK → TE) : TE := fun σ H Q => Tabs T H ∧ ∀ H1 tt, ExtN H H1 → Tabs T H1 → H1 tt = some (.tup [.int i]) → TT (fun E H' Q' => H' tt = some (.tup [.int i]) ∧ t E σ H' Q') H1 Q
section
variable {X : Cx}
/-- x(lambda a=i: body) -/
theorem pe_lamcallD {T : List (Addr × Str)} {TT : (XK → Hp → VK → Prop) → Hp → VK → Prop} {x a : Str} {g c P : Addr} {k : Nat} {pg : Arguments} {bg : List Stmt} {sg : Scope} {dV kV doc pm cdv ct oc : Value} {an od : Option Addr} {osl : Array (Option Value)} {Ng : List Str}
    {ar : Arg} {i0 : Int} {j0 : Nat} {p0 : Pos} {body : Expr} {scope : Scope} {t : XK → TE} {p lpos pos : Pos} (hg : Gl X x) (hm : X.mg x = some (.ref g)) (hk : PySem.W.keepIn X.K (.ref g) = true)
    (lk : X.K.lookup g = some ⟨oc, od, .func (PySem.W.fnOf x x pg bg sg dV kV doc pm an cdv ct), osl⟩) (hcg : PySem.W.codeIn X.K cdv x = true) (hb : L2.Binds X.K (PySem.W.fnOf x x pg bg sg dV kV doc pm an cdv ct) [a] []) (Sg : FnScope Ng [a] sg) (hNg : Ng[0]? = some a) (hva : Vis sg a)
    (hG : GivesTo X Ng x sg g cdv bg a (X.env.qual ++ "<lambda>") TT)
    (TB : TabB X.base X.mg c P) (hcode : X.env.code = .ref c) (hmT : (P, X.env.qual ++ "<lambda>") ∈ T) (hu : ∀ p ∈ T, p.1 = P → p.2 = X.env.qual ++ "<lambda>") (hr : Room (k + 2) X.A) (L : LamD X.N X.env.scope scope ar.arg)
    (hbind : ∀ (q : Str) (cl : List (Str × Addr)) (tt : Addr) (pm cv ctv u : Value), ∃ kk, bindArgs (PySem.W.lmd_fn "<lambda>" q (lmdPar ar i0 j0 p0) body scope cl (.ref tt) pm cv ctv) ⟨[], []⟩ = seqItems? (.ref tt) >>= kk ∧ kk (some #[u]) = pure [(ar.arg, u)])
    (hbody : ∀ (A : Around) (outer : List Env) (s : Shared) (H : Hp) (E : XK) (f c' : Addr), Room k (A.deeper (lamEnv X scope s.heap.objs.size f c')) → PE (lamCx X A outer s H E scope f c') body (t E))
    (hdb : (x == ("__debug__" : Str)) = false := by decide) (hd : (a == ("__debug__" : Str)) = false := by decide) (hcd : (a == ("__classdict__" : Str)) = false := by decide) :
    PE X (.Call (.Name x p) [.Lambda (lmdPar ar i0 j0 p0) body scope lpos] [] pos) (tLamD T i0 TT t) := by
  refine ⟨fun pins s σ H Q I h => ?_⟩
  obtain ⟨hT, h⟩ := h
  refine wpAny_Call_Name_kw (ld_glob I hg hm ?_ hdb)
  refine PySem.W.callWith_K (h₀ := X.base) I.ok.mod.kin hk ?_ (by rfl) (by rfl)
  show wpAny _ _ (spliced ((false, eval (.Lambda (lmdPar ar i0 j0 p0) body scope lpos) X.env) :: backTo pos (starEach [] X.env))) _ _ s
  refine Calls.spliced_cons (lmd_make I TB hcode hmT hu hT (L.has I.ok) fun f c' tt pm' ctv H1 s' I1 eN T1 hf hfn hfr hco htt => ?_)
  refine Calls.spliced_nil ⟨I1.kIn, ?_⟩
  have rc : codeAny (model X.prog X.w) X.A (.call (.ref g) ⟨[.ref f], []⟩) (CR C8.CX0 X.stack X.prog X.w H1 s' Q C8.E0) s' := by
    refine run_ofS (N := Ng) (ps := [a]) (us := [.ref f]) (vs := [.ref f]) lk hcg Sg hr I1.env0 (hb s' [.ref f] I1.kIn rfl) (.cons rfl .nil) rfl fun hr' => ?_
    obtain ⟨t', ht', hq'⟩ := hG f c' s' H1 Q (fun E H' Q' => H' tt = some (.tup [.int i0]) ∧ t E σ H' Q') (fun W pn xe E p1 p2 tk hW => pe_actD (i := 0) I1 L hf hfn hfr (fun u => hbind _ _ _ _ _ _ u) tk hW hr' (fun A outer s H hr2 => hbody A outer s H E f c' hr2) hNg hva hd hcd) hco (h H1 tt eN T1 htt)
    exact ⟨t', ht'.nox, hq'⟩
  refine wpAny_call (codeAny_mono rc fun r s2 hq => ?_)
  cases r with
  | error e => exact (show False from hq).elim
  | ok fl =>
    cases fl with
    | ret u => exact I1.after hq
    | next => exact False.elim hq
    | brk => exact False.elim hq
    | cont => exact False.elim hq
end
end T12
end
section
set_option Elab.async false
set_option linter.all false
set_option maxRecDepth 100000
set_option maxHeartbeats 4000000
set_option exponentiation.threshold 5000
namespace T12
open NdefX ClX StX LamX
open PySem PySem.Spec PyProof.Rows L2
/-! ### beside tables of code objects, which grow -/
theorem rd_weak {G G' : Hp} (e : ExtN G G') {a : Addr} {u : HO} (hu : ∀ ps, u ≠ .tbl ps) (h : Rd G a u) : Rd G' a u := by
  rcases h with h | ⟨o, h⟩
  · exact .inl (e a _ h hu)
  · exact .inr ⟨o, e a _ h fun ps z => by cases z⟩
mutual
theorem Dv.weak {G G' : Hp} (e : ExtN G G') : ∀ (d : PyData) (v : V), Dv G v d → Dv G' v d
  | .none, _, h => by cases h; exact .non
  | .bool b, _, h => by cases h; exact .bl b
  | .int i, _, h => by cases h; exact .int i
  | .str x, _, h => by cases h; exact .str x
  | .list ds, _, h => by
    cases h with
    | lst h1 h2 => exact .lst (rd_weak e (fun ps z => by cases z) h1) (DvAll.weak e ds _ h2)
  | .tuple ds, _, h => by
    cases h with
    | tup h1 h2 => exact .tup (e _ _ h1 fun ps z => by cases z) (DvAll.weak e ds _ h2)
  | .dict _, _, h => by cases h
theorem DvAll.weak {G G' : Hp} (e : ExtN G G') : ∀ (ds : List PyData) (vs : List V), DvAll G vs ds → DvAll G' vs ds
  | [], _, h => by cases h; exact .nil
  | d :: ds, _, h => by
    cases h with
    | cons h1 h2 => exact .cons (Dv.weak e d _ h1) (DvAll.weak e ds _ h2)
end
theorem TyOf.weak {K : PySem.W.Frag} {G G' : Hp} (e : ExtN G G') {v : V} {t : Value} (h : TyOf K G v t) : TyOf K G' v t := by
  cases h with
  | non => exact .non
  | bl x => exact .bl x
  | int i => exact .int i
  | str x => exact .str x
  | flt x => exact .flt x
  | lst q => exact .lst (e _ _ q fun ps z => by cases z)
  | frz q => exact .frz (e _ _ q fun ps z => by cases z)
  | tup q => exact .tup (e _ _ q fun ps z => by cases z)
  | dK q => exact .dK (e _ _ q fun ps z => by cases z)
  | dT q => exact .dT (e _ _ q fun ps z => by cases z)
  | ins q a b c d f => exact .ins (e _ _ q fun ps z => by cases z) a b c d f
/-- plainly kept -/
def NP : SV → Prop
  | .pr _ => False
  | _ => True
theorem Rv.weak {K : PySem.W.Frag} {G G' : Hp} (e : ExtN G G') {x : SV} {v : V} (n : NP x) (h : Rv K G x v) : Rv K G' x v := by
  cases x with
  | d p => exact Dv.weak e p v h
  | m a => exact h
  | o C fs =>
    obtain ⟨a, dx, vs, h1, h2, h3⟩ := h
    exact ⟨a, dx, vs, h1, e _ _ h2 (fun ps z => by cases z), Paired.imp (fun p q z => ⟨z.1, Dv.weak e _ _ z.2⟩) h3⟩
  | t T => exact TyOf.weak e h
  | pr r => exact n.elim
def NPs (ρ : Sl) : Prop := ∀ (i : Nat) (x : SV), ρ[i]? = some (some x) → NP x
theorem MuOk.notin {μ : Mu} {H : Hp} (m : MuOk μ H) {b : Addr} {o : HO} (h : H b = some o) (n : ∀ xs, o ≠ .lst xs) : μ b = none := by
  cases e : μ b with
  | none => rfl
  | some ds =>
    obtain ⟨xs, h1, _⟩ := m b ds e
    rw [h] at h1
    exact absurd (Option.some.inj h1) (n xs)
theorem extn_hid {μ : Mu} {H H1 : Hp} (e : ExtN H H1) : ExtN (hid H μ) (hid H1 μ) := fun b o h n => by
  have hm := hid_mu h
  rw [hid_of hm] at h ⊢
  exact e b o h n
theorem ex_hid {μ : Mu} {H H1 : Hp} (e : Ex H H1) : Ex (hid H μ) (hid H1 μ) := fun b o h => by
  have hm := hid_mu h
  rw [hid_of hm] at h ⊢
  exact e b o h
theorem MuOk.weak {μ : Mu} {H H1 : Hp} (m : MuOk μ H) (e : ExtN H H1) : MuOk μ H1 := fun a ds h => by
  obtain ⟨xs, h1, h2⟩ := m a ds h
  exact ⟨xs, e a _ h1 (fun ps z => by cases z), DvAll.weak (extn_hid e) _ _ h2⟩
theorem MuOk.ex {μ : Mu} {H H1 : Hp} (m : MuOk μ H) (e : Ex H H1) : MuOk μ H1 := m.weak (ExtN.of e)
theorem tabs_hid {T : List (Addr × Str)} {μ : Mu} {H : Hp} (m : MuOk μ H) (t : Tabs T H) : Tabs T (hid H μ) := fun p hp => by
  obtain ⟨ps, h1, h2, h3⟩ := t p hp
  refine ⟨ps, by rw [hid_of (m.notin h1 fun xs z => by cases z)]; exact h1, h2, fun pos cv hc => ?_⟩
  obtain ⟨c, e1, e2⟩ := h3 pos cv hc
  exact ⟨c, e1, by rw [hid_of (m.notin e2 fun xs z => by unfold CodeO at z; cases z)]; exact e2⟩
theorem tabs_raw {T : List (Addr × Str)} {μ : Mu} {H : Hp} (t : Tabs T (hid H μ)) : Tabs T H := t.ext hid_le
theorem Rep.weak {K : PySem.W.Frag} {ρ : Sl} {μ : Mu} {σ : L2.St} {H H1 : Hp} (r : Rep K ρ μ σ H) (n : NPs ρ) (e : ExtN H H1) : Rep K ρ μ σ H1 :=
  ⟨fun i x h => let ⟨v, h1, h2⟩ := r.sl i x h; ⟨v, h1, Rv.weak (extn_hid e) (n i x h) h2⟩, r.mu.weak e, r.len⟩
def WK (K : PySem.W.Frag) (T : List (Addr × Str)) (Q : SV → Mu → Prop) (H : Hp) (μ : Mu) (Qc : VK) : Prop :=
  ∀ x μ' v H', Q x μ' → ExtN (hid H μ) (hid H' μ') → MuOk μ' H' → Tabs T (hid H' μ') → Rv K (hid H' μ') x v → Qc v H'
def WE (X : Cx) (T : List (Addr × Str)) (e : Expr) (ρ : Sl) (μ : Mu) (Q : SV → Mu → Prop) : Prop := ∀ σ H, Rep X.K ρ μ σ H → Tabs T (hid H μ) → ∀ Qc, WK X.K T Q H μ Qc → cE X e σ H Qc
/-- what a lambda does that is asked: it raises, or it comes back -/
def Asks (tl : XK → Hp → VK → Prop) (H1 : Hp) (μ : Mu) (r : Option (Addr × Str)) : Prop := ∀ H', Ex (hid H1 μ) (hid H' μ) → MuOk μ H' → ∀ E (QQ : VK), (∀ C y, r = some (C, y) → RaisesK E H' μ C y) → (r = none → ∀ v H2, Ex (hid H' μ) (hid H2 μ) → MuOk μ H2 → QQ v H2) → tl E H' QQ
/-- what is heard of it -/
def HeardD (CM CN CF : Addr) (r : Option (Addr × Str)) (d : PyData) : Prop := (r = none ∧ d = .none) ∨ ∃ C y wd, r = some (C, y) ∧ HearsAs CM CN CF C wd ∧ d = .tuple [.str wd, .str y]
section
variable {X : Cx} {T : List (Addr × Str)} {ρ : Sl} {μ : Mu} {Q : SV → Mu → Prop} {e : Expr} {CM CN CF : Addr} {r : Option (Addr × Str)} {d : PyData}
theorem heard_core {tl : XK → Hp → VK → Prop} {H H1 : Hp} {Qc : VK} (m1 : MuOk μ H1) (e1 : ExtN (hid H μ) (hid H1 μ)) (t1 : Tabs T (hid H1 μ)) (ask : Asks tl H1 μ r) (hd : HeardD CM CN CF r d) (hq : Q (.d d) μ) (k : WK X.K T Q H μ Qc) : TTheard CM CN CF tl H1 Qc := by
  intro H' eH QQ hQQ
  refine ask H' (ex_hid eH) (m1.ex eH) _ _ (fun C y er dd H2 e2 m2 hdd => ?_) (fun er v H2 e2 m2 => hQQ v H2 fun H'' e3 => ?_)
  · rcases hd with ⟨z, _⟩ | ⟨C', y', wd, er', hC, ed⟩
    · rw [er] at z; cases z
    · rw [er] at er'
      cases er'
      subst ed
      refine ⟨C, dd, y, wd, rfl, rfl, hdd, hC, fun t H'' e3 ht => ?_⟩
      have m3 := m2.ex e3
      have ee : Ex (hid H1 μ) (hid H'' μ) := ((ex_hid eH).trans e2).trans (ex_hid e3)
      refine k _ μ _ H'' hq (e1.trans (ExtN.of ee)) m3 (t1.ext ee) ?_
      exact .tup (by rw [hid_of (m3.notin ht fun xs z => by cases z)]; exact ht) (.cons (.str _) (.cons (.str _) .nil))
  · rcases hd with ⟨_, ed⟩ | ⟨C', y', wd, er', _, _⟩
    · subst ed
      have ee : Ex (hid H1 μ) (hid H'' μ) := ((ex_hid eH).trans e2).trans (ex_hid e3)
      exact k _ μ _ H'' hq (e1.trans (ExtN.of ee)) (m2.ex e3) (t1.ext ee) .non
    · rw [er] at er'; cases er'
theorem we_heard {t : XK → TE} (PEh : PE X e (tLam T (TTheard CM CN CF) t)) (hn : NPs ρ) (ask : ∀ σ H1, Rep X.K ρ μ σ H1 → Asks (fun E H' Q' => t E σ H' Q') H1 μ r) (hd : HeardD CM CN CF r d) (hq : Q (.d d) μ) : WE X T e ρ μ Q := fun σ H R hT Qc k =>
  cE_of PEh ⟨tabs_raw hT, fun H1 e1 t1 => heard_core (R.mu.weak e1) (extn_hid e1) (tabs_hid (R.mu.weak e1) t1) (ask σ H1 (R.weak hn e1)) hd hq k⟩
theorem we_heardD {i : Int} {t : XK → TE} (PEh : PE X e (tLamD T i (TTheard CM CN CF) t)) (hn : NPs ρ) (ask : ∀ σ H1, Rep X.K ρ μ σ H1 → Asks (fun E H' Q' => t E σ H' Q') H1 μ r) (hd : HeardD CM CN CF r d) (hq : Q (.d d) μ) : WE X T e ρ μ Q := fun σ H R hT Qc k =>
  cE_of PEh ⟨tabs_raw hT, fun H1 tt e1 t1 htt => by
    have m1 := R.mu.weak e1
    refine heard_core m1 (extn_hid e1) (tabs_hid m1 t1) (fun H' eH mH E QQ h1 h2 => ⟨hid_le _ _ (eH _ _ (by rw [hid_of (m1.notin htt fun xs z => by cases z)]; exact htt)), ask σ H1 (R.weak hn e1) H' eH mH E QQ h1 h2⟩) hd hq k⟩
/-- strong is weak -/
theorem we_of (h : DE X e ρ μ Q) : WE X T e ρ μ Q := fun σ H R hT Qc k => h σ H R Qc fun x μ' v H' q e1 m1 r1 => k x μ' v H' q (ExtN.of e1) m1 (hT.ext e1) r1
end
end T12
end
section
set_option Elab.async false
set_option linter.all false
set_option maxRecDepth 100000
set_option maxHeartbeats 4000000
set_option exponentiation.threshold 5000
namespace T12
open NdefX ClX StX LamX
open PySem PySem.Spec PyProof.Rows L2
theorem Rep.wstep {K : PySem.W.Frag} {ρ : Sl} {μ μ1 : Mu} {σ : L2.St} {H H1 : Hp} (r : Rep K ρ μ σ H) (n : NPs ρ) (e : ExtN (hid H μ) (hid H1 μ1)) (m : MuOk μ1 H1) : Rep K ρ μ1 σ H1 :=
  ⟨fun i x h => let ⟨v, h1, h2⟩ := r.sl i x h; ⟨v, h1, Rv.weak e (n i x h) h2⟩, m, r.len⟩
theorem WK.from {K : PySem.W.Frag} {T : List (Addr × Str)} {Q : SV → Mu → Prop} {H H1 : Hp} {μ μ1 : Mu} {Qc : VK} (e : ExtN (hid H μ) (hid H1 μ1)) (h : WK K T Q H μ Qc) : WK K T Q H1 μ1 Qc := fun x μ' v H' q e' => h x μ' v H' q (e.trans e')
def WN (K : PySem.W.Frag) (T : List (Addr × Str)) (Q : Sl → Mu → Prop) (H : Hp) (μ : Mu) (Qc : L2.St → Hp → Prop) : Prop :=
  ∀ ρ' μ' σ' H', Q ρ' μ' → ExtN (hid H μ) (hid H' μ') → Tabs T (hid H' μ') → Rep K ρ' μ' σ' H' → Qc σ' H'
theorem WN.from {K : PySem.W.Frag} {T : List (Addr × Str)} {Q : Sl → Mu → Prop} {H H1 : Hp} {μ μ1 : Mu} {Qc : L2.St → Hp → Prop} (e : ExtN (hid H μ) (hid H1 μ1)) (h : WN K T Q H μ Qc) : WN K T Q H1 μ1 Qc := fun ρ' μ' σ' H' q e' => h ρ' μ' σ' H' q (e.trans e')
structure WSK (K : PySem.W.Frag) (T : List (Addr × Str)) (Φ : DEnds) (H : Hp) (μ : Mu) (D : Ends) : Prop where
  nx : WN K T Φ.nx H μ D.nx
  rt : WK K T Φ.rt H μ D.rt
  bk : WN K T Φ.bk H μ D.bk
  ct : WN K T Φ.ct H μ D.ct
theorem WSK.from {K : PySem.W.Frag} {T : List (Addr × Str)} {Φ : DEnds} {H H1 : Hp} {μ μ1 : Mu} {D : Ends} (e : ExtN (hid H μ) (hid H1 μ1)) (h : WSK K T Φ H μ D) : WSK K T Φ H1 μ1 D := ⟨h.nx.from e, h.rt.from e, h.bk.from e, h.ct.from e⟩
def WS (X : Cx) (T : List (Addr × Str)) (st : Stmt) (ρ : Sl) (μ : Mu) (Φ : DEnds) : Prop := ∀ σ H, Rep X.K ρ μ σ H → Tabs T (hid H μ) → ∀ D, WSK X.K T Φ H μ D → cS X st D σ H
def WSs (X : Cx) (T : List (Addr × Str)) (sts : List Stmt) (ρ : Sl) (μ : Mu) (Φ : DEnds) : Prop := ∀ σ H, Rep X.K ρ μ σ H → Tabs T (hid H μ) → ∀ D, WSK X.K T Φ H μ D → cSs X sts D σ H
def WB (T : List (Addr × Str)) (Q : Bool → Mu → Prop) (H : Hp) (μ : Mu) (Qc : Bool → Hp → Prop) : Prop := ∀ b μ' H', Q b μ' → ExtN (hid H μ) (hid H' μ') → MuOk μ' H' → Tabs T (hid H' μ') → Qc b H'
def WT (X : Cx) (T : List (Addr × Str)) (e : Expr) (ρ : Sl) (μ : Mu) (Q : Bool → Mu → Prop) : Prop := ∀ σ H, Rep X.K ρ μ σ H → Tabs T (hid H μ) → ∀ Qc, WB T Q H μ Qc → cT X e σ H Qc
def WW (X : Cx) (T : List (Addr × Str)) (e : Expr) (ρ : Sl) (μ : Mu) (Q : Bool → Mu → Prop) : Prop := ∀ σ H, Rep X.K ρ μ σ H → Tabs T (hid H μ) → ∀ Qc, WB T Q H μ Qc → cW X e σ H Qc
def WA (X : Cx) (T : List (Addr × Str)) (es : List Expr) (ρ : Sl) (μ : Mu) (Q : List SV → Mu → Prop) : Prop := ∀ σ H, Rep X.K ρ μ σ H → Tabs T (hid H μ) → ∀ Qc, (∀ xs μ' vs H', Q xs μ' → ExtN (hid H μ) (hid H' μ') → MuOk μ' H' → Tabs T (hid H' μ') → RvAll X.K (hid H' μ') xs vs → Qc vs H') → cA X es σ H Qc
section
variable {X : Cx} {T : List (Addr × Str)} {ρ : Sl} {μ : Mu} {Q : SV → Mu → Prop} {QB : Bool → Mu → Prop} {QL : List SV → Mu → Prop} {Φ : DEnds} {e a b c : Expr} {es rest : List Expr} {st : Stmt} {sts tb eb : List Stmt} {pos p p' : Pos}
theorem ws_of (h : DS X st ρ μ Φ) : WS X T st ρ μ Φ := fun σ H R hT D k => h σ H R D ⟨fun ρ' μ' σ' H' q e1 R1 => k.nx ρ' μ' σ' H' q (ExtN.of e1) (hT.ext e1) R1, fun x m v H' q e1 m1 r1 => k.rt x m v H' q (ExtN.of e1) m1 (hT.ext e1) r1,
  fun ρ' μ' σ' H' q e1 R1 => k.bk ρ' μ' σ' H' q (ExtN.of e1) (hT.ext e1) R1, fun ρ' μ' σ' H' q e1 R1 => k.ct ρ' μ' σ' H' q (ExtN.of e1) (hT.ext e1) R1⟩
theorem wss_of (h : DSs X sts ρ μ Φ) : WSs X T sts ρ μ Φ := fun σ H R hT D k => h σ H R D ⟨fun ρ' μ' σ' H' q e1 R1 => k.nx ρ' μ' σ' H' q (ExtN.of e1) (hT.ext e1) R1, fun x m v H' q e1 m1 r1 => k.rt x m v H' q (ExtN.of e1) m1 (hT.ext e1) r1,
  fun ρ' μ' σ' H' q e1 R1 => k.bk ρ' μ' σ' H' q (ExtN.of e1) (hT.ext e1) R1, fun ρ' μ' σ' H' q e1 R1 => k.ct ρ' μ' σ' H' q (ExtN.of e1) (hT.ext e1) R1⟩
theorem wss_nil (q : Φ.nx ρ μ) : WSs X T [] ρ μ Φ := fun σ H R hT D k => cSs_of pss_nil (k.nx ρ μ σ H q (ExtN.refl _) hT R)
theorem wss_cons (h : WS X T st ρ μ { Φ with nx := fun ρ' μ' => WSs X T sts ρ' μ' Φ }) : WSs X T (st :: sts) ρ μ Φ := fun σ H R hT D k =>
  cSs_of (pss_cons (ps_k st) (pss_k sts)) (h σ H R hT _ ⟨fun ρ' μ' σ' H' q e1 t1 R1 => q σ' H' R1 t1 D (k.from e1), k.rt, k.bk, k.ct⟩)
/-- a strong statement first -/
theorem wss_s (h : DS X st ρ μ { Φ with nx := fun ρ' μ' => WSs X T sts ρ' μ' Φ }) : WSs X T (st :: sts) ρ μ Φ := wss_cons (ws_of h)
theorem ws_set {i : Nat} {n : Str} (hN : X.N.Nodup) (hn : NPs ρ) (h : WE X T e ρ μ fun x m => Φ.nx (ρ.set i (some x)) m) (hi : X.N[i]? = some n := by rfl) (hx : Loc X.env.scope n := by first | exact Or.inl rfl | exact Or.inr rfl) (hs : swapsWith e (some (.Name n p')) pos.line X.env = pure false := by rfl)
    (hf : X.fn n = true ∨ X.env.scope.names.lookup n = some .local := by first | exact .inl rfl | exact .inr rfl) : WS X T (.Assign [.Name n p'] e pos) ρ μ Φ := fun σ H R hT D k =>
  cS_of (ps_set hN hi hx (pe_k e) hs hf) (h σ H R hT _ fun x m v H1 q e1 m1 t1 r1 => k.nx _ m _ H1 q e1 t1 ((R.wstep hn e1 m1).set r1))
theorem ws_ret (h : WE X T e ρ μ Φ.rt) : WS X T (.Return (some e) pos) ρ μ Φ := fun σ H R hT D k => cS_of (ps_ret (pe_k e)) (h σ H R hT _ k.rt)
theorem ws_if (hn : NPs ρ) (h : WT X T c ρ μ fun k m => if k = true then WSs X T tb ρ m Φ else WSs X T eb ρ m Φ) : WS X T (.If c tb eb pos) ρ μ Φ := fun σ H R hT D k =>
  cS_of (ps_if (pt_k c) (pss_k tb) (pss_k eb)) (h σ H R hT _ fun d m H1 q e1 m1 t1 => by
    cases d with
    | true => rw [if_pos rfl] at q ⊢; exact q σ H1 (R.wstep hn e1 m1) t1 D (k.from e1)
    | false => rw [if_neg Bool.false_ne_true] at q ⊢; exact q σ H1 (R.wstep hn e1 m1) t1 D (k.from e1))
theorem wt_of (h : DT X e ρ μ QB) : WT X T e ρ μ QB := fun σ H R hT Qc k => h σ H R Qc fun b m H' q e1 m1 => k b m H' q (ExtN.of e1) m1 (hT.ext e1)
theorem wt_val (h : WE X T e ρ μ (isB QB)) (he : ∀ whole, isTrue e X.env whole = (do let v ← whole; standAt e.pos; holding [v] (truthy v)) := by intro _; rfl) : WT X T e ρ μ QB := fun σ H R hT Qc k =>
  cT_of (pt_val (pe_k e) he) (h σ H R hT _ fun x m v H1 ⟨c, ex, q⟩ e1 m1 t1 r1 => by
    subst ex
    cases r1
    exact ⟨c, rfl, k c m H1 q e1 m1 t1⟩)
theorem wt_not (h : WT X T a ρ μ fun k m => QB (!k) m) : WT X T (.UnaryOp .Not a pos) ρ μ QB := fun σ H R hT Qc k =>
  cT_of (pt_not (pt_k a)) (h σ H R hT _ fun d μ' H' q e1 m1 t1 => k _ μ' H' q e1 m1 t1)
theorem wt_w (h : WW X T e ρ μ QB) : WT X T e ρ μ QB := fun σ H R hT Qc k pins s I => h σ H R hT Qc k _ pins s I
theorem ww_or1 (h : WT X T a ρ μ QB) : WW X T (.BoolOp .Or [a] pos) ρ μ QB := fun σ H R hT Qc k => cW_of (pw_or1 (pt_k a)) (h σ H R hT Qc k)
theorem ww_or (hn : NPs ρ) (h : WT X T a ρ μ fun k m => if k = true then QB true m else WW X T (.BoolOp .Or (b :: rest) pos) ρ m QB) : WW X T (.BoolOp .Or (a :: b :: rest) pos) ρ μ QB := fun σ H R hT Qc k =>
  cW_of (pw_or (pt_k a) (pw_k _)) (h σ H R hT _ fun d μ' H' q e1 m1 t1 => by
    cases d with
    | true => rw [if_pos rfl] at q ⊢; exact k true μ' H' q e1 m1 t1
    | false => rw [if_neg Bool.false_ne_true] at q ⊢; exact q σ H' (R.wstep hn e1 m1) t1 Qc fun b m H2 q2 e2 => k b m H2 q2 (e1.trans e2))
theorem wa_nil (q : QL [] μ) : WA X T [] ρ μ QL := fun σ H R hT Qc k => cA_of pa_nil (k [] μ [] H q (ExtN.refl _) R.mu hT .nil)
theorem wa_cons (hn : NPs ρ) (h : WE X T e ρ μ fun x m => NP x ∧ WA X T es ρ m fun xs m' => QL (x :: xs) m') (hs : starEach (e :: es) X.env = (false, eval e X.env) :: starEach es X.env := by rfl) : WA X T (e :: es) ρ μ QL := fun σ H R hT Qc k =>
  cA_of (pa_cons (pe_k e) (pa_k es) hs) (h σ H R hT _ fun x μ1 v H1 ⟨nx, q⟩ e1 m1 t1 r1 => q σ H1 (R.wstep hn e1 m1) t1 _ fun xs μ2 vs H2 q2 e2 m2 t2 r2 => k _ μ2 _ H2 q2 (e1.trans e2) m2 t2 (.cons (r1.weak e2 nx) r2))
/-- a list display -/
theorem we_lst (h : WA X T es ρ μ fun xs m => ∃ ds, datas xs = some ds ∧ Nat.ble ds.length 1000 = true ∧ Q (.d (.list ds)) m) : WE X T (.List es pos) ρ μ Q := fun σ H R hT Qc k =>
  cE_of (pe_lst (pa_k es)) (h σ H R hT _ fun xs μ1 vs H1 ⟨ds, hd, hl, q⟩ e1 m1 t1 r1 => by
    have r := rv_datas r1 hd
    refine ⟨by rw [r.len]; exact Nat.le_of_lt (small1000 (Nat.le_of_ble_eq_true hl)), fun p hp => ?_⟩
    have en := ex_new (μ := μ1) (o := .lst vs) hp
    exact k _ μ1 _ _ q (e1.trans (ExtN.of en)) (m1.new hp) (t1.ext en) (.lst (.inl (hid_new m1 hp)) (DvAll.mono en _ _ r)))
/-- a == b, deeply; a weak, b strong -/
theorem we_eqD {k : Nat} (hn : NPs ρ) (hr : Room k X.A) (h : WE X T a ρ μ fun x m => ∃ d, x = .d d ∧ DE X b ρ m fun y m2 => ∃ f, y = .d f ∧ SeqAt.shaped d = true ∧ SeqAt.shaped f = true ∧ Q (.d (.bool (PyData.eqv d f))) m2) (hm : behindInMarks .Eq b = false := by rfl) : WE X T (.Compare a [.Eq] [b] pos) ρ μ Q := fun σ H R hT Qc kk =>
  cE_of (pe_cmpR (op_eqD hr.units) (pe_k a) (pe_k b) hm) (h σ H R hT _ fun x μ1 v H1 ⟨d, ex, hb⟩ e1 m1 t1 r1 => by
    subst ex
    refine hb σ H1 (R.wstep hn e1 m1) _ fun y μ2 u H2 ⟨f, ey, s1, s2, q⟩ e2 m2 r2 => ?_
    subst ey
    exact ⟨d, f, Dv.dp hid_le d v (Dv.mono e2 _ _ r1), Dv.dp hid_le f u r2, s1, s2, kk _ μ2 _ H2 q (e1.trans (ExtN.of e2)) m2 (t1.ext e2) (.bl _)⟩)
theorem WE.imp {Q' : SV → Mu → Prop} (h : WE X T e ρ μ Q) (k : ∀ x μ', Q x μ' → Q' x μ') : WE X T e ρ μ Q' := fun σ H R hT Qc q => h σ H R hT Qc fun x μ' v H' z => q x μ' v H' (k x μ' z)
end
/-! ### defs that make lambdas -/
def spW (K : PySem.W.Frag) (T : List (Addr × Str)) (n : Nat) (dsp : DSp) : Sp := fun vs H Q _ => ∃ (xs : List SV) (μ : Mu) (P : SV → Mu → Prop), xs.length = n ∧ MuOk μ H ∧ Tabs T (hid H μ) ∧ RvAll K (hid H μ) xs vs ∧ dsp xs μ P ∧ WK K T P H μ Q
section
variable {X : Cx} {T : List (Addr × Str)} {ρ : Sl} {μ : Mu} {Q : SV → Mu → Prop} {e : Expr} {es : List Expr} {pos p : Pos}
theorem we_call {x : Str} {n k j : Nat} {dsp : DSp} (c : CalG X.prog X.w X.K X.mg X.base k x (spW X.K T n dsp)) (hr : Room j X.A) (hk : k ≤ j) (hgd : X.A.guards = some []) (h : DA X (e :: es) ρ μ fun xs m => xs.length = n ∧ dsp xs m Q) (hg : Gl X x := by rfl)
    (hdb : (x == ("__debug__" : Str)) = false := by decide) (he : starEach (e :: es) X.env = (false, eval e X.env) :: starEach es X.env := by rfl) (hpl : (backTo pos (starEach es X.env)).any (·.1) = false := by rfl) :
    WE X T (.Call (.Name x p) (e :: es) [] pos) ρ μ Q := fun σ H R hT Qc k =>
  cE_of (pe_cG c hr hk hgd hg (pa_k (e :: es)) hdb he hpl) (h σ H R _ fun xs μ1 vs H1 ⟨hn, q⟩ e1 m1 r1 => ⟨xs, μ1, Q, hn, m1, hT.ext e1, r1, q, k.from (ExtN.of e1)⟩)
end
section
variable {P : Program} {w : World} {K : PySem.W.Frag} {mg : Str → Option Value} {base : Heap}
theorem d_okW {x : Str} {st : Stmt} {N ps : List Str} {k n : Nat} {dsp : DSp} {TT : List (Addr × Str)} {c : Addr} (T : Tp K mg x st ps []) (hc : ∀ f fd, C8.Def K mg x st f fd → fd.code = .ref c) (S : FnScope N ps (C8.fnScope st)) (hn : ps.length = n)
    (h : ∀ (f : Addr) (A : Around) (outer : List Env) (s : Shared) (H : Hp) (E : XK), Room k (BD P w K mg base N x st f (.ref c) A outer s H E).A → (BD P w K mg base N x st f (.ref c) A outer s H E).A.guards = some [] → ∀ (xs : List SV) (μ : Mu) (Q : SV → Mu → Prop), xs.length = n → dsp xs μ Q →
      WSs (BD P w K mg base N x st f (.ref c) A outer s H E) TT (C8.fnBody st) (startD N xs) μ { nx := fun _ m => Q (.d .none) m, rt := Q }) : CalG P w K mg base (k + 1) x (spW K TT n dsp) := by
  obtain ⟨f, fd, F, b⟩ := T.ex
  have hcd0 := hc f fd F
  refine ⟨f, fd, ps, ?_, F.mgf, F.kp, b⟩
  obtain ⟨oc, od, dV, kV, doc, pm, an, cdv, ct, osl, rfl, lk, hcd⟩ := F.fn.ex
  obtain rfl : cdv = .ref c := hcd0
  refine fnG_of lk hcd S (fun vs H Q E ⟨xs, μ, P', hl, _, _, r, _, _⟩ => by rw [← Paired.length r, hl, hn]) fun A outer s H vs Q E hr hgd hsp => ?_
  obtain ⟨xs, μ, P', hl, m, hT, r, q, kk⟩ := hsp
  have body := h f A outer s H E hr hgd xs μ P' hl q
  refine ⟨cSs (BD P w K mg base N x st f (.ref c) A outer s H E) (C8.fnBody st), (pss_k (X := BD P w K mg base N x st f (.ref c) A outer s H E) _).nox, ?_⟩
  refine body (L2.start N vs) H (rep_start m r) hT _ ⟨fun ρ' μ' σ' H' z e1 t1 R1 => ?_, kk, fun _ _ _ _ z => z.elim, fun _ _ _ _ z => z.elim⟩
  exact kk _ μ' _ H' z e1 R1.mu t1 .non
end
end T12
end
section
set_option Elab.async false
set_option linter.all false
set_option maxRecDepth 100000
set_option maxHeartbeats 4000000
set_option exponentiation.threshold 5000
namespace T12
open NdefX ClX StX LamX
open PySem PySem.Spec PyProof.Rows L2
section
variable {X : Cx} {ρ : Sl} {μ : Mu} {Q : SV → Mu → Prop} {e a b : Expr} {es : List Expr} {pos p : Pos}
/-- {} as some dict -/
theorem de_dict0 (h : Q (.t "dict") μ) : DE X (.Dict [] [] pos) ρ μ Q := fun σ H R Qc k =>
  cE_of pe_dnewK fun p hp => k _ μ _ _ h (ex_new hp) (R.mu.new hp) (.dK (hid_new R.mu hp))
/-- a list display as some list -/
theorem de_lstT (h : DA X es ρ μ fun xs m => Nat.ble xs.length 1000 = true ∧ Q (.t "list") m) : DE X (.List es pos) ρ μ Q := fun σ H R Qc k =>
  cE_of (pe_lst (pa_k es)) (h σ H R _ fun xs μ1 vs H1 ⟨hl, q⟩ e1 m1 r1 => by
    refine ⟨by rw [r1.len]; exact Nat.le_of_lt (small1000 (Nat.le_of_ble_eq_true hl)), fun p hp => ?_⟩
    exact k _ μ1 _ _ q (e1.trans (ex_new hp)) (m1.new hp) (.lst (hid_new m1 hp)))
end
section
variable {K : PySem.W.Frag} {ρ : Sl} {μ : Mu}
/-- a lambda's body: a call of two captured names that raises -/
theorem ask2 {i j : Nat} {x1 x2 : SV} {dsp : List SV → Mu → Addr → Str → Prop} {C : Addr} {y : Str} (h1 : ρ[i]? = some (some x1)) (h2 : ρ[j]? = some (some x2)) (hd : dsp [x1, x2] μ C y) (σ : L2.St) (H1 : Hp) (R : Rep K ρ μ σ H1) :
    Asks (fun E H' Q' => tCall (spX K 2 dsp) [] E (tCons (tVar i) (tCons (tVar j) tNil)) σ H' Q') H1 μ (some (C, y)) := by
  intro H' eH mH E QQ hr _
  obtain ⟨v1, a1, r1⟩ := R.sl i x1 h1
  obtain ⟨v2, a2, r2⟩ := R.sl j x2 h2
  refine ⟨v1, a1, v2, a2, [x1, x2], μ, C, y, rfl, mH, ?_, hd, hr C y rfl⟩
  exact .cons (r1.mono eH) (.cons (r2.mono eH) .nil)
theorem ask1 {i : Nat} {x1 : SV} {dsp : List SV → Mu → Addr → Str → Prop} {C : Addr} {y : Str} (h1 : ρ[i]? = some (some x1)) (hd : dsp [x1] μ C y) (σ : L2.St) (H1 : Hp) (R : Rep K ρ μ σ H1) :
    Asks (fun E H' Q' => tCall (spX K 1 dsp) [] E (tCons (tVar i) tNil) σ H' Q') H1 μ (some (C, y)) := by
  intro H' eH mH E QQ hr _
  obtain ⟨v1, a1, r1⟩ := R.sl i x1 h1
  exact ⟨v1, a1, [x1], μ, C, y, rfl, mH, .cons (r1.mono eH) .nil, hd, hr C y rfl⟩
theorem ask1N {i : Nat} {x1 : SV} {dsp : DSp} (h1 : ρ[i]? = some (some x1)) (hd : dsp [x1] μ fun _ m => m = μ) (σ : L2.St) (H1 : Hp) (R : Rep K ρ μ σ H1) :
    Asks (fun E H' Q' => tCall (spD K 1 dsp) [] C8.E0 (tCons (tVar i) tNil) σ H' Q') H1 μ none := by
  intro H' eH mH E QQ _ hr
  obtain ⟨v1, a1, r1⟩ := R.sl i x1 h1
  refine ⟨v1, a1, [x1], μ, fun _ m => m = μ, rfl, mH, .cons (r1.mono eH) .nil, hd, fun x m v H2 em e2 m2 r2 => ?_⟩
  subst em
  exact hr rfl v H2 e2 m2
end
section
variable {X : Cx} {A : Around} {outer : List Env} {s : Shared} {H : Hp} {E : XK} {scope : Scope} {f c' : Addr} {i j k kk : Nat} {x n1 n2 : Str} {p p1 p2 pos : Pos}
theorem lam_passes : Passes (CX X.prog X.w) (lamCx X A outer s H E scope f c') E :=
  passes_call (W := fun cls d _ H => E cls d H) (takes_of rfl rfl rfl rfl) fun _ _ _ _ h => h
/-- the lambda's body: x(n1, n2) that raises -/
theorem lam_body2 {dsp : List SV → Mu → Addr → Str → Prop} (c : CalX X.prog X.w X.K X.mg X.base k x (spX X.K 2 dsp) []) (hk : k ≤ kk) (hr : Room kk (A.deeper (lamEnv X scope s.heap.objs.size f c'))) (hg : scope.names.lookup x = some .globalImplicit) (h1 : X.N[i]? = some n1) (h2 : X.N[j]? = some n2) (v1 : scope.names.lookup n1 = some .free) (v2 : scope.names.lookup n2 = some .free)
    (d0 : (x == ("__debug__" : Str)) = false) (d1 : (n1 == ("__debug__" : Str)) = false) (d2 : (n1 == ("__classdict__" : Str)) = false) (d3 : (n2 == ("__debug__" : Str)) = false) (d4 : (n2 == ("__classdict__" : Str)) = false) :
    PE (lamCx X A outer s H E scope f c') (.Call (.Name x p) [.Name n1 p1, .Name n2 p2] [] pos) (tCall (spX X.K 2 dsp) [] E (tCons (tVar i) (tCons (tVar j) tNil))) := by
  obtain ⟨f2, fd, ps, ds, F, hm, kp, b, d⟩ := c.ex
  cases d
  exact pe_call (X := lamCx X A outer s H E scope f c') F (hr.mono hk) hg hm kp b .nil lam_passes (pa_cons (pe_var h1 (.inr (.inr v1)) d1 d2) (pa_cons (pe_var h2 (.inr (.inr v2)) d3 d4) pa_nil)) d0
theorem lam_body1 {dsp : List SV → Mu → Addr → Str → Prop} (c : CalX X.prog X.w X.K X.mg X.base k x (spX X.K 1 dsp) []) (hk : k ≤ kk) (hr : Room kk (A.deeper (lamEnv X scope s.heap.objs.size f c'))) (hg : scope.names.lookup x = some .globalImplicit) (h1 : X.N[i]? = some n1) (v1 : scope.names.lookup n1 = some .free)
    (d0 : (x == ("__debug__" : Str)) = false) (d1 : (n1 == ("__debug__" : Str)) = false) (d2 : (n1 == ("__classdict__" : Str)) = false) :
    PE (lamCx X A outer s H E scope f c') (.Call (.Name x p) [.Name n1 p1] [] pos) (tCall (spX X.K 1 dsp) [] E (tCons (tVar i) tNil)) := by
  obtain ⟨f2, fd, ps, ds, F, hm, kp, b, d⟩ := c.ex
  cases d
  exact pe_call (X := lamCx X A outer s H E scope f c') F (hr.mono hk) hg hm kp b .nil lam_passes (pa_cons (pe_var h1 (.inr (.inr v1)) d1 d2) pa_nil) d0
theorem lam_body1N {dsp : DSp} (c : C8.Cal X.prog X.w X.K X.mg X.base k x (spD X.K 1 dsp) []) (hk : k ≤ kk) (hr : Room kk (A.deeper (lamEnv X scope s.heap.objs.size f c'))) (hg : scope.names.lookup x = some .globalImplicit) (h1 : X.N[i]? = some n1) (v1 : scope.names.lookup n1 = some .free)
    (d0 : (x == ("__debug__" : Str)) = false) (d1 : (n1 == ("__debug__" : Str)) = false) (d2 : (n1 == ("__classdict__" : Str)) = false) :
    PE (lamCx X A outer s H E scope f c') (.Call (.Name x p) [.Name n1 p1] [] pos) (tCall (spD X.K 1 dsp) [] C8.E0 (tCons (tVar i) tNil)) := by
  obtain ⟨f2, fd, ps, ds, F, hm, kp, b, d⟩ := c.ex
  cases d
  exact pe_call (X := lamCx X A outer s H E scope f c') F (hr.mono hk) hg hm kp b .nil C8.pass0 (pa_cons (pe_var h1 (.inr (.inr v1)) d1 d2) pa_nil) d0
end
end T12
end
section
set_option Elab.async false
set_option linter.all false
set_option maxRecDepth 100000
set_option maxHeartbeats 4000000
set_option exponentiation.threshold 5000
namespace T12
open NdefX ClX StX LamX
open PySem PySem.Spec PyProof.Rows L2
section
variable {X : Cx} {TT : List (Addr × Str)} {CT CM CN CF c P : Addr} {k : Nat} {params : Arguments} {body : Expr} {scope : Scope} {t : XK → TE} {p lpos pos : Pos} {ρ : Sl} {μ : Mu} {Q : SV → Mu → Prop} {a b : Expr}
/-- _law_heard(lambda: body) -/
theorem pe_heard (TH : Tp X.K X.mg "_law_heard" sLawHeard ["_law_ask"] []) (HT : HeardT X.K X.mg CT CM CN CF) (hB : X.mg "isinstance" = none) (TB : TabB X.base X.mg c P) (hcode : X.env.code = .ref c) (hmT : (P, X.env.qual ++ "<lambda>") ∈ TT) (hu : ∀ p ∈ TT, p.1 = P → p.2 = X.env.qual ++ "<lambda>") (hr : Room (k + 2) X.A)
    (hbody : ∀ (A : Around) (outer : List Env) (s : Shared) (H : Hp) (E : XK) (f c' : Addr), Room k (A.deeper (lamEnv X scope s.heap.objs.size f c')) → PE (lamCx X A outer s H E scope f c') body (t E))
    (L : LamS X.env.scope scope) (hg : Gl X "_law_heard" := by rfl) (hdef : defaultsOf params X.env = ([], []) := by rfl)
    (hbind : ∀ (q : Str) (cl : List (Str × Addr)) (pm cv ctv : Value), bindArgs (PySem.W.kla_fn "<lambda>" q params body scope cl pm cv ctv) ⟨[], []⟩ = pure [] := by intros; rfl) :
    PE X (.Call (.Name "_law_heard" p) [.Lambda params body scope lpos] [] pos) (tLam TT (TTheard CM CN CF) t) := by
  obtain ⟨g, fd, F, b⟩ := TH.ex
  obtain ⟨oc, od, dV, kV, doc, pm, an, cdv, ct, osl, rfl, lk, hcd⟩ := F.fn.ex
  exact pe_lamcall (x := "_law_heard") (a := "_law_ask") hg F.mgf F.kp lk hcd b scLawHeard rfl (.inl rfl) (heard_gives HT hB) TB hcode hmT hu hr L hdef hbind hbody (by decide) (by decide) (by decide)
theorem pe_heardD {ar : Arg} {i0 : Int} {j0 : Nat} {p0 : Pos} (TH : Tp X.K X.mg "_law_heard" sLawHeard ["_law_ask"] []) (HT : HeardT X.K X.mg CT CM CN CF) (hB : X.mg "isinstance" = none) (TB : TabB X.base X.mg c P) (hcode : X.env.code = .ref c) (hmT : (P, X.env.qual ++ "<lambda>") ∈ TT) (hu : ∀ p ∈ TT, p.1 = P → p.2 = X.env.qual ++ "<lambda>") (hr : Room (k + 2) X.A)
    (hbody : ∀ (A : Around) (outer : List Env) (s : Shared) (H : Hp) (E : XK) (f c' : Addr), Room k (A.deeper (lamEnv X scope s.heap.objs.size f c')) → PE (lamCx X A outer s H E scope f c') body (t E))
    (L : LamD X.N X.env.scope scope ar.arg) (hbind : ∀ (q : Str) (cl : List (Str × Addr)) (tt : Addr) (pm cv ctv u : Value), ∃ kk, bindArgs (PySem.W.lmd_fn "<lambda>" q (lmdPar ar i0 j0 p0) body scope cl (.ref tt) pm cv ctv) ⟨[], []⟩ = seqItems? (.ref tt) >>= kk ∧ kk (some #[u]) = pure [(ar.arg, u)]) (hg : Gl X "_law_heard" := by rfl) :
    PE X (.Call (.Name "_law_heard" p) [.Lambda (lmdPar ar i0 j0 p0) body scope lpos] [] pos) (tLamD TT i0 (TTheard CM CN CF) t) := by
  obtain ⟨g, fd, F, b⟩ := TH.ex
  obtain ⟨oc, od, dV, kV, doc, pm, an, cdv, ct, osl, rfl, lk, hcd⟩ := F.fn.ex
  exact pe_lamcallD (x := "_law_heard") (a := "_law_ask") hg F.mgf F.kp lk hcd b scLawHeard rfl (.inl rfl) (heard_gives HT hB) TB hcode hmT hu hr L hbind hbody (by decide) (by decide) (by decide)
/-- a text times an int -/
theorem op_mulS : OpR X (binaryOp .Mult) (fun x y H Q => ∃ z n, x = .str z ∧ y = .int n ∧ MulOk z n ∧ Q (.str (Txt.mul z n)) H) := by
  intro pins s σ H x y v u Q I rx ry h
  obtain ⟨z, n, rfl, rfl, ok, q⟩ := h
  obtain ⟨t, rfl⟩ := rx
  obtain ⟨t2, rfl⟩ := ry
  exact SB.mul ok fun t' k => ⟨.str _, H, I.tok _, ⟨_, rfl⟩, q⟩
theorem de_mulStr (h : DE X a ρ μ fun x m1 => DE X b ρ m1 fun y m2 => ∃ z n, x = .d (.str z) ∧ y = .d (.int n) ∧ MulOk z n ∧ Q (.d (.str (Txt.mul z n))) m2) : DE X (.BinOp a .Mult b pos) ρ μ Q :=
  de_op op_mulS (h.imp fun _ _ hh => hh.imp fun _ _ ⟨z0, n, ex, ey, ok, q⟩ H v u Qc m r1 r2 k => by
    subst ex; subst ey
    cases r1
    cases r2
    exact ⟨z0, n, rfl, rfl, ok, k _ _ _ H q (Ex.refl _) m (.str _)⟩)
end
/-- what the classes say of values that are no machine -/
structure OddT (K : PySem.W.Frag) (C : Addr) : Prop where
  non : PySem.W.kitOne K (.type "NoneType") (.ref C) = some false
  int : PySem.W.kitOne K (.type "int") (.ref C) = some false
  str : PySem.W.kitOne K (.type "str") (.ref C) = some false
  bool : PySem.W.kitOne K (.type "bool") (.ref C) = some false
  list : PySem.W.kitOne K (.type "list") (.ref C) = some false
  dict : PySem.W.kitOne K (.type "dict") (.ref C) = some false
abbrev sLawRefusedRight : Stmt := topS 97
abbrev nRefused : List Str := ["_law_wharf_here", "_law_machine", "_law_wide", "_law_odd", "_law_none", "_law_far", "_law_heard_here"]
theorem scLawRefusedRight : FnScope nRefused ["_law_wharf_here", "_law_machine", "_law_wide"] (C8.fnScope sLawRefusedRight) := ⟨rfl, rfl, rfl, by decide +kernel, rfl, by decide +kernel, by decide +kernel⟩
def farPc (c : Int) : Pc := ⟨[c], [[((1 : Int) : Rat)]], [((0 : Int) : Rat)]⟩
theorem farD (c : Int) : pieceD (farPc c) = .tuple [.tuple [.int c], .tuple [.tuple [.int 1]], .tuple [.int 0]] := by
  unfold pieceD farPc
  simp only [rowD, cornD, List.map_cons, List.map_nil, numD_int]
theorem far_wd (c : Int) : (farPc c).Wd 1 := by
  refine ⟨rfl, rfl, fun r hr => ?_, rfl⟩
  have h : r = [((1 : Int) : Rat)] := List.mem_singleton.mp hr
  rw [h]; rfl
end T12
end
section
set_option Elab.async false
set_option linter.all false
set_option maxRecDepth 100000
set_option maxHeartbeats 4000000
set_option exponentiation.threshold 5000
namespace T12
open NdefX ClX StX LamX
open PySem PySem.Spec PyProof.Rows L2
section
variable {P : Program} {w : World} {K : PySem.W.Frag} {mg : Str → Option Value} {base : Heap}
def oddList : List SV := [.d .none, .d (.int 5), .d (.str "1 / 0 1 0"), .d (.bool true), .t "list", .t "dict"]
theorem odd_all {C : Addr} (O : OddT K C) : ∀ x ∈ oddList, OddM K C x ∧ NP x := by
  intro x hx
  unfold oddList at hx
  simp only [List.mem_cons, List.not_mem_nil, or_false] at hx
  rcases hx with rfl | rfl | rfl | rfl | rfl | rfl
  · exact ⟨⟨"NoneType", rfl, fun _ => trivial, O.non⟩, trivial⟩
  · exact ⟨⟨"int", rfl, fun _ => trivial, O.int⟩, trivial⟩
  · exact ⟨⟨"str", rfl, fun _ => trivial, O.str⟩, trivial⟩
  · exact ⟨⟨"bool", rfl, fun _ => trivial, O.bool⟩, trivial⟩
  · exact ⟨⟨"list", rfl, fun _ => trivial, O.list⟩, trivial⟩
  · exact ⟨⟨"dict", rfl, fun _ => trivial, O.dict⟩, trivial⟩
def noneList (n : Nat) : List SV := [.d .none, .d (.int 1), .d (.list (List.replicate (n + 1) [PyData.int 0]).flatten), .d (.list (List.replicate (n - 1) [PyData.int 0]).flatten), .d (.list (List.replicate n [PyData.bool true]).flatten),
  .d (.list (List.replicate n [PyData.tuple [.int 1, .int 2]]).flatten), .d (.list (List.replicate n [PyData.none]).flatten), .d (.str (Txt.mul "0" (n : Nat))), .t "dict"]
theorem none_all {n : Nat} (h1 : 1 ≤ n) : ∀ x ∈ noneList n, OddSh n x ∧ NP x := by
  intro x hx
  unfold noneList at hx
  simp only [rep_flat] at hx
  have el : ∀ d : PyData, isInt (.d d) = some false → OddSh n (.d (.list (List.replicate n d))) := fun d hd => .el (by
    intro z
    have := congrArg List.length z
    rw [List.length_replicate] at this
    simp at this
    omega) List.length_replicate fun e he => by rw [List.eq_of_mem_replicate he]; exact hd
  simp only [List.mem_cons, List.not_mem_nil, or_false] at hx
  rcases hx with rfl | rfl | rfl | rfl | rfl | rfl | rfl | rfl | rfl
  · exact ⟨.nol rfl fun _ => trivial, trivial⟩
  · exact ⟨.nol rfl fun _ => trivial, trivial⟩
  · exact ⟨.len (by rw [List.length_replicate]; omega), trivial⟩
  · exact ⟨.len (by rw [List.length_replicate]; omega), trivial⟩
  · exact ⟨el _ rfl, trivial⟩
  · exact ⟨el _ rfl, trivial⟩
  · exact ⟨el _ rfl, trivial⟩
  · exact ⟨.nol rfl fun _ => trivial, trivial⟩
  · exact ⟨.nol rfl fun _ => trivial, trivial⟩
def spLawRefused (C : Addr) : DSp := fun xs μ Q => ∃ (wa : Addr) (cs : List Int) (t : Int) (n : Nat) (ps : List Pc), xs = [.m wa, .o C (mcF n ps), .d (.int (n : Nat))] ∧ 1 ≤ n ∧ n ≤ 2 ∧ cs.length ≤ 100 ∧ Wst μ wa cs t ∧ t ≤ 4800 ∧
  ∀ μ', Aft μ wa cs (t + 10) μ' → Q (.d (.bool true)) μ'
theorem far_ok {c : Int} (h : c = 1000 ∨ c = 999) : MOk 1 [farPc c] := by
  refine ⟨by decide, ⟨Nat.le_refl 1, (by show 1 ≤ 60; decide)⟩, fun p hp => by rw [List.mem_singleton] at hp; rw [hp]; exact far_wd c, fun p hp => ?_, List.nodup_cons.mpr ⟨by simp, List.nodup_nil⟩⟩
  rw [List.mem_singleton] at hp
  rw [hp]
  rcases h with rfl | rfl <;> decide +kernel
theorem mir_far_bad : ([farPc 1000].map mirQ).all goodPc = false := by decide +kernel
theorem mir_far_ok : MOk 1 ([farPc 999].map mirQ) := by
  refine ⟨by decide, by decide, fun p hp => ?_, fun p hp => ?_, List.nodup_cons.mpr ⟨by simp, List.nodup_nil⟩⟩
  · have h : p = mirQ (farPc 999) := List.mem_singleton.mp hp
    rw [h]; exact wd_mir (far_wd 999)
  · have h : p = mirQ (farPc 999) := List.mem_singleton.mp hp
    rw [h]; decide +kernel
theorem far_ps {c : Int} (h : c = 1000 ∨ c = 999) : PsOk 1 [farPc c] := by
  refine ⟨by decide, (by show 1 ≤ 60; decide), fun p hp => by rw [List.mem_singleton] at hp; rw [hp]; exact far_wd c, fun p hp => ?_⟩
  rw [List.mem_singleton] at hp
  rw [hp]
  refine ⟨1, 1, ⟨fun d hd => ?_, fun r hr => ?_, fun a ha => ?_, (by show 1 ≤ 2 ∧ 1 ≤ 2 ∧ 1 ≤ 2; decide)⟩, by decide, by decide, by decide⟩
  · have : d = c := List.mem_singleton.mp hd
    rw [this]
    exact Nat.lt_of_le_of_lt (show c.natAbs ≤ 1000 by omega) (Nat.lt_of_lt_of_le (by decide : 1000 < 2 ^ 10) (Nat.pow_le_pow_right (by decide) (by decide)))
  · have : r = [((1 : Int) : Rat)] := List.mem_singleton.mp hr
    rw [this]
    refine ⟨by decide, fun a ha => ?_⟩
    have : a = ((1 : Int) : Rat) := List.mem_singleton.mp ha
    rw [this]
    exact Wi.int (N := 1) (D := 1) (by decide) (by decide)
  · have : a = ((0 : Int) : Rat) := List.mem_singleton.mp ha
    rw [this]
    exact Wi.int (N := 1) (D := 1) (by decide) (by decide)
theorem natsub {n : Nat} (h : 1 ≤ n) : SV.d (.int ((n : Nat) - 1 : Int)) = SV.d (.int ((n - 1 : Nat) : Int)) := by
  rw [show ((n : Nat) - 1 : Int) = ((n - 1 : Nat) : Int) by omega]
theorem mulok0 {n : Nat} (h : n ≤ 2) : MulOk "0" (n : Nat) := by
  have : n = 0 ∨ n = 1 ∨ n = 2 := by omega
  rcases this with rfl | rfl | rfl <;> refine ⟨?_, ?_, ?_⟩ <;> decide +kernel
/-- the first three statements: two odd values and a far machine are drawn -/
theorem refused_head {C : Addr} {f : Addr} {cdv : Value} {A : Around} {outer : List Env} {s : Shared} {H : Hp} {E : XK} {TT : List (Addr × Str)} {Φ : DEnds} {wa : Addr} {cs : List Int} {t : Int} {n : Nat} {ps : List Pc} {μ : Mu}
    (O : OddT K C) (B : Bl mg) (hr : Room 12 (BD P w K mg base nRefused "_law_refused_right" sLawRefusedRight f cdv A outer s H E).A) (c_pick : C8.Cal P w K mg base 2 "_law_pick" (spD K 2 (spLawPick K)) []) (c_mk : C8.Mak P w K mg base 7 "Machine" C (spMcI K C) []) (h1 : 1 ≤ n) (h2 : n ≤ 2) (hcs : cs.length ≤ 100) (hw : Wst μ wa cs t) (ht : t ≤ 4800)
    (h : ∀ odd none_ c μ', OddM K C odd → NP odd → OddSh n none_ → NP none_ → (c = 1000 ∨ c = 999) → Aft μ wa cs (t + 10) μ' → WSs (BD P w K mg base nRefused "_law_refused_right" sLawRefusedRight f cdv A outer s H E) TT (List.drop 3 (C8.fnBody sLawRefusedRight)) [some (.m wa), some (.o C (mcF n ps)), some (.d (.int (n : Nat))), some odd, some none_, some (.o C (mcF 1 [farPc c])), none] μ' Φ) :
    WSs (BD P w K mg base nRefused "_law_refused_right" sLawRefusedRight f cdv A outer s H E) TT (C8.fnBody sLawRefusedRight) (startD nRefused [.m wa, .o C (mcF n ps), .d (.int (n : Nat))]) μ Φ := by
  refine wss_s (ds_set (i := 3) scLawRefusedRight.nd (de_call c_pick hr (by decide) (da_cons (dv 0 (da_cons (de_lstP (da_cons (de_non (da_cons (de_int (da_cons (de_str (da_cons (de_bl (da_cons (de_lstT (da_cons (dv 1 (da_nil ⟨rfl, da_cons (de_dict0 (da_nil ⟨rfl, da_nil ?_⟩))⟩)))))))))))))))))))
  refine ⟨rfl, wa, cs, t, _, oddList, rfl, .inr rfl, by unfold oddList; simp, by unfold oddList; decide, hcs, hw, by omega, fun odd hodd m1 ha1 => ?_⟩
  obtain ⟨ho1, ho2⟩ := odd_all O odd hodd
  refine wss_s (ds_set (i := 4) scLawRefusedRight.nd (de_call c_pick hr (by decide) (da_cons (dv 0 (da_cons (de_lstP (da_cons (de_non (da_cons (de_int (da_cons ?_)))))))))))
  refine de_mulM (de_lstM (da_cons (de_int (da_nil ⟨[.int 0], rfl, rfl, fun fa hfa => de_add (dv 2 (de_int ⟨_, _, rfl, rfl, fa, [.int 0], n + 1, rfl, put_same, rfl, by omega, by decide, ?_⟩))⟩))))
  rw [era_put hfa]
  refine da_cons (de_mulM (de_lstM (da_cons (de_int (da_nil ⟨[.int 0], rfl, rfl, fun fb hfb => de_sub (dv 2 (de_int ⟨_, _, rfl, rfl, fb, [.int 0], n - 1, rfl, put_same, natsub h1, by omega, by decide, ?_⟩))⟩)))))
  rw [era_put hfb]
  refine da_cons (de_mulM (de_lstM (da_cons (de_bl (da_nil ⟨[.bool true], rfl, rfl, fun fb hfb => dv 2 ⟨fb, [.bool true], n, rfl, put_same, rfl, by omega, by decide, ?_⟩⟩)))))
  rw [era_put hfb]
  refine da_cons (de_mulM (de_lstM (da_cons (de_tup (da_cons (de_int (da_cons (de_int (da_nil ⟨_, rfl, rfl, da_nil ⟨[.tuple [.int 1, .int 2]], rfl, rfl, fun fb hfb => dv 2 ⟨fb, [.tuple [.int 1, .int 2]], n, rfl, put_same, rfl, by omega, by decide, ?_⟩⟩⟩)))))))))
  rw [era_put hfb]
  refine da_cons (de_mulM (de_lstM (da_cons (de_non (da_nil ⟨[.none], rfl, rfl, fun fb hfb => dv 2 ⟨fb, [.none], n, rfl, put_same, rfl, by omega, by decide, ?_⟩⟩)))))
  rw [era_put hfb]
  refine da_cons (de_mulStr (de_str (dv 2 ⟨_, _, rfl, rfl, mulok0 h2, da_cons (de_dict0 (da_nil ⟨rfl, da_nil ?_⟩))⟩)))
  refine ⟨rfl, wa, cs, t + 1, _, noneList n, rfl, .inr rfl, by unfold noneList; simp, by show 9 ≤ 1000; decide, hcs, ha1.st, by omega, fun non hnon m2 ha2 => ?_⟩
  obtain ⟨hn1, hn2⟩ := none_all h1 non hnon
  refine wss_s (ds_set (i := 5) scLawRefusedRight.nd (de_mkMachine c_mk hr (by decide) (da_cons (de_int (da_cons (de_lst (da_cons (de_tup (da_cons (de_tup (da_cons ?_))))))))))) 
  refine de_call c_pick hr (by decide) (da_cons (dv 0 (da_cons (de_lst (da_cons (de_int (da_cons (de_int (da_cons (de_int (da_nil ⟨_, rfl, rfl, da_nil ?_⟩)))))))))))
  refine ⟨rfl, wa, cs, t + 2, .d (.list [.int 1000, .int 1000, .int 999]), [.d (.int 1000), .d (.int 1000), .d (.int 999)], rfl, .inl ⟨_, rfl, rfl⟩, by simp, by decide, hcs, (ha1.trans ha2).st.up (by omega), by omega, fun y hy m3 ha3 => ?_⟩
  have hc : ∃ c : Int, y = .d (.int c) ∧ (c = 1000 ∨ c = 999) := by
    simp only [List.mem_cons, List.not_mem_nil, or_false] at hy
    rcases hy with rfl | rfl | rfl
    · exact ⟨_, rfl, .inl rfl⟩
    · exact ⟨_, rfl, .inl rfl⟩
    · exact ⟨_, rfl, .inr rfl⟩
  obtain ⟨c, rfl, hc⟩ := hc
  refine da_nil ⟨_, rfl, rfl, da_cons (de_tup (da_cons (de_tup (da_cons (de_int (da_nil ⟨_, rfl, rfl, da_nil ⟨_, rfl, rfl, da_cons (de_tup (da_cons (de_int (da_nil ⟨_, rfl, rfl, da_nil ⟨_, rfl, rfl, da_nil ⟨_, rfl, rfl, da_nil ⟨1, [farPc c], ?_, far_ok hc, ?_⟩⟩⟩⟩))))⟩⟩))))))⟩
  · show _ = [_, SV.d (.list [pieceD (farPc c)])]
    rw [farD]; rfl
  exact h odd non c m3 ho1 ho2 hn1 hn2 hc (((ha1.trans ha2).trans ha3).up (by omega))
end
end T12
end
section
set_option Elab.async false
set_option linter.all false
set_option maxRecDepth 100000
set_option maxHeartbeats 4000000
set_option exponentiation.threshold 5000
namespace T12
open NdefX ClX StX LamX
open PySem PySem.Spec PyProof.Rows L2
theorem nps_of {ρ : Sl} (h : ∀ o ∈ ρ, ∀ x, o = some x → NP x) : NPs ρ := fun i x e => h _ (List.mem_of_getElem? e) x rfl
abbrev lamQ (x : Str) (st : Stmt) : Str := (envOfC x (C8.fnScope st) 0 0 .none).qual ++ "<lambda>"
section
variable {P : Program} {w : World} {K : PySem.W.Frag} {mg : Str → Option Value} {base : Heap}
theorem ok_law_refused_right {C CM CN CF CT c Pt : Addr} {TT : List (Addr × Str)} (T : Tp K mg "_law_refused_right" sLawRefusedRight ["_law_wharf_here", "_law_machine", "_law_wide"] []) (hcode : ∀ f fd, C8.Def K mg "_law_refused_right" sLawRefusedRight f fd → fd.code = .ref c)
    (TB : TabB base mg c Pt) (hmT : (Pt, lamQ "_law_refused_right" sLawRefusedRight) ∈ TT) (hu : ∀ p ∈ TT, p.1 = Pt → p.2 = lamQ "_law_refused_right" sLawRefusedRight) (TH : Tp K mg "_law_heard" sLawHeard ["_law_ask"] []) (HT : HeardT K mg CT CM CN CF) (M : McT K mg C) (B : Bl mg) (O : OddT K C)
    (c_pick : C8.Cal P w K mg base 2 "_law_pick" (spD K 2 (spLawPick K)) []) (c_mk : C8.Mak P w K mg base 7 "Machine" C (spMcI K C) []) (c_movedX : CalX P w K mg base 10 "moved" (spX K 2 (spMovedX K C CM CN CF)) []) (c_mirX : CalX P w K mg base 10 "mirrored" (spX K 1 (spMirroredX K C CM CF)) []) (c_mir : C8.Cal P w K mg base 10 "mirrored" (spD K 1 (spMirrored C)) []) :
    CalG P w K mg base 13 "_law_refused_right" (spW K TT 3 (spLawRefused C)) := by
  refine d_okW (k := 12) T hcode scLawRefusedRight rfl fun f A outer s H E hr hgd xs μ Q hl ⟨wa, cs, t, n, ps, ex, h1, h2, hcs, hw, ht, hq⟩ => ?_
  subst ex
  refine refused_head O B hr c_pick c_mk h1 h2 hcs hw ht fun odd non cc m ho1 ho2 hn1 hn2 hc ha => ?_
  have hn : NPs [some (.m wa), some (.o C (mcF n ps)), some (.d (.int (n : Nat))), some odd, some non, some (.o C (mcF 1 [farPc cc])), none] := nps_of fun o ho x e => by
    simp only [List.mem_cons, List.not_mem_nil, or_false] at ho
    rcases ho with rfl | rfl | rfl | rfl | rfl | rfl | rfl <;> cases e <;> first | trivial | assumption
  have hr10 : Room (10 + 2) (BD P w K mg base nRefused "_law_refused_right" sLawRefusedRight f (.ref c) A outer s H E).A := hr
  refine wss_cons (ws_set (i := 6) scLawRefusedRight.nd hn (we_lst (wa_cons hn ?_)))
  refine we_heard (pe_heard TH HT B.isinstance TB rfl hmT hu hr10 (fun A outer s H E f c' hr2 => lam_body2 (i := 3) (j := 4) c_movedX (Nat.le_refl _) hr2 rfl rfl rfl rfl rfl (by decide) (by decide) (by decide) (by decide) (by decide)) (lamS_by (sc := C8.fnScope sLawRefusedRight) (by decide +kernel))) hn
    (fun σ H1 R => ask2 rfl rfl (.inl ⟨odd, non, rfl, ho1, rfl, rfl⟩) σ H1 R) (.inr ⟨CM, "machine", "machine", rfl, .inl ⟨rfl, rfl⟩, rfl⟩) ⟨trivial, wa_cons hn ?_⟩
  refine we_heardD (pe_heardD TH HT B.isinstance TB rfl hmT hu hr10 (fun A outer s H E f c' hr2 => lam_body1 (i := 3) c_mirX (Nat.le_refl _) hr2 rfl rfl rfl (by decide) (by decide) (by decide)) (lamD_by (N := nRefused) (sc := C8.fnScope sLawRefusedRight) (by decide +kernel)) (fun q cl tt pm cv ctv u => ⟨_, rfl, rfl⟩)) hn
    (fun σ H1 R => ask1 rfl (.inl ⟨odd, rfl, ho1, rfl, rfl⟩) σ H1 R) (.inr ⟨CM, "machine", "machine", rfl, .inl ⟨rfl, rfl⟩, rfl⟩) ⟨trivial, wa_cons hn ?_⟩
  refine we_heardD (pe_heardD TH HT B.isinstance TB rfl hmT hu hr10 (fun A outer s H E f c' hr2 => lam_body2 (i := 1) (j := 4) c_movedX (Nat.le_refl _) hr2 rfl rfl rfl rfl rfl (by decide) (by decide) (by decide) (by decide) (by decide)) (lamD_by (N := nRefused) (sc := C8.fnScope sLawRefusedRight) (by decide +kernel)) (fun q cl tt pm cv ctv u => ⟨_, rfl, rfl⟩)) hn
    (fun σ H1 R => ask2 rfl rfl (.inr (.inl ⟨n, ps, non, rfl, by omega, hn1, rfl, rfl⟩)) σ H1 R) (.inr ⟨CN, "shift", "number", rfl, .inr (.inl ⟨rfl, rfl⟩), rfl⟩) ⟨trivial, wa_nil ⟨_, rfl, rfl, ?_⟩⟩
  have hn6 : NPs [some (.m wa), some (.o C (mcF n ps)), some (.d (.int (n : Nat))), some odd, some non, some (.o C (mcF 1 [farPc cc])), some (.d (.list [.tuple [.str "machine", .str "machine"], .tuple [.str "machine", .str "machine"], .tuple [.str "number", .str "shift"]]))] := nps_of fun o ho x e => by
    simp only [List.mem_cons, List.not_mem_nil, or_false] at ho
    rcases ho with rfl | rfl | rfl | rfl | rfl | rfl | rfl <;> cases e <;> first | trivial | assumption
  refine wss_s (ds_if (dt_cmp (dc_neD hr (dv 6 (de_lst (da_cons (de_tup (da_cons (de_str (da_cons (de_str (da_nil ⟨_, rfl, rfl, ?_⟩))))))))))))
  refine da_cons (de_tup (da_cons (de_str (da_cons (de_str (da_nil ⟨_, rfl, rfl, ?_⟩))))))
  refine da_cons (de_tup (da_cons (de_str (da_cons (de_str (da_nil ⟨_, rfl, rfl, da_nil ⟨_, rfl, rfl, _, _, rfl, rfl, ?_, ?_, _, rfl, ?_⟩⟩))))))
  · decide +kernel
  · decide +kernel
  refine iteN (by decide +kernel) (dss_nil ?_)
  refine wss_cons (ws_ret ?_)
  rcases hc with rfl | rfl
  · refine we_eqD hn6 hr (we_heard (pe_heard TH HT B.isinstance TB rfl hmT hu hr10 (fun A outer s H E f c' hr2 => lam_body1 (i := 5) c_mirX (Nat.le_refl _) hr2 rfl rfl rfl (by decide) (by decide) (by decide)) (lamS_by (sc := C8.fnScope sLawRefusedRight) (by decide +kernel))) hn6
      (fun σ H1 R => ask1 rfl (.inr ⟨1, [farPc 1000], rfl, far_ps (.inl rfl), mir_far_bad, rfl, rfl⟩) σ H1 R) (.inr ⟨CF, "machine", "misfit", rfl, .inr (.inr ⟨rfl, rfl⟩), rfl⟩) ⟨_, rfl, ?_⟩)
    refine de_if (dt_cmp (dc_eqD hr (de_ix (de_ix (de_fld M.cl M.nP (dv 5 ⟨_, _, rfl, rfl, de_int ⟨[farPc 1000].map pieceD, 0, pieceD (farPc 1000), rfl, rfl, rfl, de_int ⟨_, 0, cornD [1000], rfl, rfl, rfl, ?_⟩⟩⟩))))))
    refine de_tup (da_cons (de_int (da_nil ⟨_, rfl, rfl, _, _, rfl, rfl, ?_, ?_, _, rfl, ?_⟩)))
    · decide +kernel
    · decide +kernel
    refine iteP (by decide +kernel) (de_tup (da_cons (de_str (da_cons (de_str (da_nil ⟨_, rfl, rfl, _, rfl, ?_, ?_, ?_⟩))))))
    · decide +kernel
    · decide +kernel
    rw [show PyData.eqv (.tuple [.str "misfit", .str "machine"]) (.tuple [.str "misfit", .str "machine"]) = true by decide +kernel]
    exact hq m ha
  · refine we_eqD hn6 hr (we_heard (pe_heard TH HT B.isinstance TB rfl hmT hu hr10 (fun A outer s H E f c' hr2 => lam_body1N (i := 5) c_mir (Nat.le_refl _) hr2 rfl rfl rfl (by decide) (by decide) (by decide)) (lamS_by (sc := C8.fnScope sLawRefusedRight) (by decide +kernel))) hn6
      (fun σ H1 R => ask1N rfl ⟨1, [farPc 999], rfl, far_ps (.inr rfl), mir_far_ok, rfl⟩ σ H1 R) (.inl ⟨rfl, rfl⟩) ⟨_, rfl, ?_⟩)
    refine de_if (dt_cmp (dc_eqD hr (de_ix (de_ix (de_fld M.cl M.nP (dv 5 ⟨_, _, rfl, rfl, de_int ⟨[farPc 999].map pieceD, 0, pieceD (farPc 999), rfl, rfl, rfl, de_int ⟨_, 0, cornD [999], rfl, rfl, rfl, ?_⟩⟩⟩))))))
    refine de_tup (da_cons (de_int (da_nil ⟨_, rfl, rfl, _, _, rfl, rfl, ?_, ?_, _, rfl, ?_⟩)))
    · decide +kernel
    · decide +kernel
    refine iteN (by decide +kernel) (de_non ⟨_, rfl, ?_, ?_, ?_⟩)
    · decide +kernel
    · decide +kernel
    rw [show PyData.eqv .none .none = true by decide +kernel]
    exact hq m ha
end
end T12
end
section
set_option Elab.async false
set_option linter.all false
set_option maxRecDepth 100000
set_option maxHeartbeats 4000000
set_option exponentiation.threshold 5000
namespace T12
open NdefX ClX StX
open PySem PySem.Spec PyProof.Rows L2
/-- a def that may be called by keywords alone: ks the written ones, g their order -/
structure CalK (P : Program) (w : World) (K : PySem.W.Frag) (mg : Str → Option Value) (base : Heap) (k : Nat) (x : Str) (ks : List Str) (g : {α : Type} → List α → List α) (sp : Sp) : Prop where
  ex : ∃ (f : Addr) (fd : FuncData) (ps : List Str), FnOk P w K mg base CX0 k f fd ps sp ∧ mg x = some (.ref f) ∧ PySem.W.keepIn K (.ref f) = true ∧ (∀ (s : Shared) (ws : List Value), K.In s.heap → ws.length = ks.length → BindsTo s fd ⟨[], ks.zip ws⟩ (ps.zip (g ws)))
  rel : ∀ {vs : List V} {us : List Value}, Vals vs us → Vals (g vs) (g us)
section
variable {X : Cx} {ρ : Sl} {μ : Mu} {Q : SV → Mu → Prop} {e1 e2 : Expr} {pos p q1 q2 : Pos} {n1 n2 x : Str}
theorem run_k0 {k : Nat} {f : Addr} {fd : FuncData} {ps ks : List Str} {sp : Sp} {g : {α : Type} → List α → List α} {pins : List (Addr × Obj)} {σ : L2.St} {H : Hp} {s : Shared} {Q : VK} {ws : List Value} {zs : List V} (F : FnOk X.prog X.w X.K X.mg X.base CX0 k f fd ps sp) (hr : Room k X.A) (hb : BindsTo s fd ⟨[], ks.zip ws⟩ (ps.zip (g ws)))
    (I : Inv X pins σ H s) (r : Vals (g zs) (g ws)) (h : sp (g zs) H Q C8.E0) : wpAny (model X.prog X.w) X.A (call (.ref f) [] (ks.zip ws)) (EP X pins σ Q) X.xe s := by
  refine wpAny_call (codeAny_mono (F.run X.A X.stack s H ⟨[], ks.zip ws⟩ (g ws) (g zs) Q C8.E0 hr I.env0 hb r h) fun r s' hq => ?_)
  cases r with
  | error e => exact (C8.pass0 (E := C8.E0)) pins σ H s e s' I hq
  | ok fl =>
    cases fl with
    | ret u => exact I.after hq
    | next => exact False.elim hq
    | brk => exact False.elim hq
    | cont => exact False.elim hq
theorem pe_k0 {k j : Nat} {ks : List Str} {g : {α : Type} → List α → List α} {sp : Sp} {kws : List Keyword} {tk : TA} (c : CalK X.prog X.w X.K X.mg X.base k x ks g sp) (hr : Room j X.A) (hk : k ≤ j) (hg : Gl X x) (hkw : L2.PK X kws tk) (hl : ∀ (n : List V), kws.length = ks.length)
    (hlen : ∀ σ H Q, tk σ H Q → tk σ H fun zs H1 => zs.length = ks.length ∧ Q zs H1)
    (hall : (backToKw pos (keywordEach kws X.env)).all (·.1.isSome) = true := by rfl) (hks : (backToKw pos (keywordEach kws X.env)).filterMap (·.1) = ks := by rfl) (hdb : (x == ("__debug__" : Str)) = false := by decide)
    (hpl : ((backTo pos (starEach [] X.env)).any (·.1) || (backToKw pos (keywordEach kws X.env)).any (·.1.isNone)) = false := by rfl) : PE X (.Call (.Name x p) [] kws pos) (fun σ H Q => tk σ H fun zs H1 => sp (g zs) H1 Q C8.E0) := by
  obtain ⟨f, fd, ps, F, hm, kp, hb⟩ := c.ex
  refine ⟨fun pins s σ H Q I h => ?_⟩
  refine wpAny_Call_Name_kw (ld_glob I hg hm ?_ hdb)
  refine PySem.W.callWith_KW0 (h₀ := X.base) I.ok.mod.kin kp hall (thn (hkw.run pos pins s σ H _ I (hlen _ _ _ h)) fun ws s2 ⟨zs, H2, I2, rz, hzl, q2⟩ => ⟨I2.kIn, ?_⟩) hpl
  rw [hks]
  exact run_k0 F (hr.mono hk) (hb s2 ws I2.kIn (by rw [← rz.length]; exact hzl)) I2 (c.rel rz) q2
/-- x(n1 = e1, n2 = e2), the parameters the other way about -/
theorem de_callK2 {k j : Nat} {dsp : DSp} (c : CalK X.prog X.w X.K X.mg X.base k x [n1, n2] List.reverse (spD X.K 2 dsp)) (hr : Room j X.A) (hk : k ≤ j) (h : DE X e1 ρ μ fun x1 m1 => DE X e2 ρ m1 fun x2 m2 => dsp [x2, x1] m2 Q) (hg : Gl X x := by rfl)
    (hall : (backToKw pos (keywordEach [⟨some n1, e1, q1⟩, ⟨some n2, e2, q2⟩] X.env)).all (·.1.isSome) = true := by rfl) (hks : (backToKw pos (keywordEach [⟨some n1, e1, q1⟩, ⟨some n2, e2, q2⟩] X.env)).filterMap (·.1) = [n1, n2] := by rfl) (hdb : (x == ("__debug__" : Str)) = false := by decide)
    (hpl : ((backTo pos (starEach [] X.env)).any (·.1) || (backToKw pos (keywordEach [⟨some n1, e1, q1⟩, ⟨some n2, e2, q2⟩] X.env)).any (·.1.isNone)) = false := by rfl) : DE X (.Call (.Name x p) [] [⟨some n1, e1, q1⟩, ⟨some n2, e2, q2⟩] pos) ρ μ Q := fun σ H R Qc kk =>
  cE_of (pe_k0 c hr hk hg (pk_cons (pe_k e1) (pk_cons (pe_k e2) pk_nil)) (fun _ => rfl) (fun σ H Q h pins s I => wpAny_mono (h pins s I) (fun _ _ z => let ⟨v, H1, I1, r1, q⟩ := z; ⟨v, H1, I1, r1, fun pins s I => wpAny_mono (q pins s I) (fun _ _ z => let ⟨v, H1, I1, r1, q⟩ := z; ⟨v, H1, I1, r1, rfl, q⟩) fun _ _ z => z⟩) fun _ _ z => z) hall hks hdb hpl)
    (h σ H R _ fun x1 m1 v1 H1 hb e1' mm1 r1 => hb σ H1 (R.step e1' mm1) _ fun x2 m2 v2 H2 q e2' mm2 r2 => ⟨[x2, x1], m2, Q, rfl, mm2, .cons r2 (.cons (r1.mono e2') .nil), q, kk.from (e1'.trans e2')⟩)
theorem de_callK1 {k j : Nat} {dsp : DSp} (c : CalK X.prog X.w X.K X.mg X.base k x [n1] List.reverse (spD X.K 1 dsp)) (hr : Room j X.A) (hk : k ≤ j) (h : DE X e1 ρ μ fun x1 m1 => dsp [x1] m1 Q) (hg : Gl X x := by rfl)
    (hall : (backToKw pos (keywordEach [⟨some n1, e1, q1⟩] X.env)).all (·.1.isSome) = true := by rfl) (hks : (backToKw pos (keywordEach [⟨some n1, e1, q1⟩] X.env)).filterMap (·.1) = [n1] := by rfl) (hdb : (x == ("__debug__" : Str)) = false := by decide)
    (hpl : ((backTo pos (starEach [] X.env)).any (·.1) || (backToKw pos (keywordEach [⟨some n1, e1, q1⟩] X.env)).any (·.1.isNone)) = false := by rfl) : DE X (.Call (.Name x p) [] [⟨some n1, e1, q1⟩] pos) ρ μ Q := fun σ H R Qc kk =>
  cE_of (pe_k0 c hr hk hg (pk_cons (pe_k e1) pk_nil) (fun _ => rfl) (fun σ H Q h pins s I => wpAny_mono (h pins s I) (fun _ _ z => let ⟨v, H1, I1, r1, q⟩ := z; ⟨v, H1, I1, r1, rfl, q⟩) fun _ _ z => z) hall hks hdb hpl)
    (h σ H R _ fun x1 m1 v1 H1 q e1' mm1 r1 => ⟨[x1], m1, Q, rfl, mm1, .cons r1 .nil, q, kk.from e1'⟩)
end
end T12
end
section
set_option Elab.async false
set_option linter.all false
set_option maxRecDepth 100000
set_option maxHeartbeats 4000000
set_option exponentiation.threshold 5000
namespace T12
open NdefX ClX StX LamX
open PySem PySem.Spec PyProof.Rows L2
theorem sz_corn {c : List Int} (hl : c.length ≤ 2) (h : ∀ x ∈ c, x.natAbs ≤ 2 ^ 40) : Sz 2000 2 (cornD c) := by
  have hs := sz_tup (N := 402) (n := 1) (ds := c.map .int) fun d hd => by
    obtain ⟨x, hx, rfl⟩ := List.mem_map.mp hd
    exact (sz_int (Nat.lt_of_le_of_lt (h x hx) (Nat.pow_lt_pow_right (by decide) (by decide)))).mono (by decide) (by decide)
  rw [List.length_map] at hs
  refine hs.mono ?_ (by decide)
  have := mulmono (Nat.le_refl (402 + 2)) hl
  omega
theorem sz_piece {p : Pc} {D N : Nat} (hi : p.In D N) (hD : D < 2 ^ 400) (hN : N < 2 ^ 400) (hc : ∀ x ∈ p.corner, x.natAbs ≤ 2 ^ 40) : Sz 13000 4 (pieceD p) := by
  have hrow : ∀ r ∈ p.rows, Sz 2000 2 (rowD r) := fun r hr => sz_row (hi.r r hr).1 fun q hq => ⟨Nat.lt_of_le_of_lt ((hi.r r hr).2 q hq).num hN, Nat.lt_of_le_of_lt ((hi.r r hr).2 q hq).den hD⟩
  have hrows : Sz 4007 3 (.tuple (p.rows.map rowD)) := by
    have hs := sz_tup (N := 2000) (n := 2) (ds := p.rows.map rowD) fun d hd => by
      obtain ⟨r, hr, rfl⟩ := List.mem_map.mp hd
      exact hrow r hr
    rw [List.length_map] at hs
    refine hs.mono ?_ (by decide)
    have := mulmono (Nat.le_refl (2000 + 2)) hi.l.2.1
    omega
  have hsh : Sz 2000 2 (rowD p.shift) := sz_row hi.l.2.2 fun q hq => ⟨Nat.lt_of_le_of_lt (hi.s q hq).num hN, Nat.lt_of_le_of_lt (hi.s q hq).den hD⟩
  have hco := sz_corn hi.l.1 hc
  refine (sz_tup (N := 4007) (n := 3) fun d hd => ?_).mono (show (4007 + 2) * 3 + 3 ≤ 13000 by decide) (by decide)
  simp only [List.mem_cons, List.not_mem_nil, or_false] at hd
  rcases hd with rfl | rfl | rfl
  · exact hco.mono (by decide) (by decide)
  · exact hrows
  · exact hsh.mono (by decide) (by decide)
/-- [wide, pieces] -/
theorem sz_pieces {n : Nat} {ps : List Pc} (hn : n ≤ 2) (hl : ps.length ≤ 60) (h : ∀ p ∈ ps, Sz 13000 4 (pieceD p)) : Sz 2000000 6 (.list [.int (n : Nat), .tuple (ps.map pieceD)]) := by
  have hs := sz_tup (N := 13000) (n := 4) (ds := ps.map pieceD) fun d hd => by
    obtain ⟨p, hp, rfl⟩ := List.mem_map.mp hd
    exact h p hp
  rw [List.length_map] at hs
  have hs' : Sz 800000 5 (.tuple (ps.map pieceD)) := hs.mono (by have := mulmono (Nat.le_refl (13000 + 2)) hl; omega) (by decide)
  refine (sz_lst (N := 800000) (n := 5) fun d hd => ?_).mono (show (800000 + 2) * 2 + 3 ≤ 2000000 by decide) (by decide)
  simp only [List.mem_cons, List.not_mem_nil, or_false] at hd
  rcases hd with rfl | rfl
  · exact (sz_int (by rw [Int.natAbs_natCast]; exact Nat.lt_of_le_of_lt hn (Nat.lt_of_lt_of_le (by decide : 2 < 2 ^ 2) (Nat.pow_le_pow_right (by decide) (by decide))))).mono (by decide) (by decide)
  · exact hs'
/-- the == of machines, as it stands in the class -/
structure EqT (P : Program) (w : World) (K : PySem.W.Frag) (mg : Str → Option Value) (base : Heap) (C : Addr) : Prop where
  ex : ∃ (f : Addr) (fd : FuncData), OwnEq K C f ∧ FnOk P w K mg base CX0 1 f fd ["self", "other"] (spD K 2 (spMcEq C)) ∧ Binds K fd ["self", "other"] []
section
variable {P : Program} {w : World} {K : PySem.W.Frag} {mg : Str → Option Value} {base : Heap}
theorem mok_dr {n : Nat} {ps : List Pc} (h1 : 1 ≤ n) (h2 : n ≤ 2) (hl : 1 ≤ ps.length ∧ ps.length ≤ 60) (hps : ∀ p ∈ ps, Dr p n) (hnd : ps.Nodup) : MOk n ps :=
  ⟨⟨h1, h2⟩, hl, fun p hp => (hps p hp).w, fun p hp => by rw [good_stand (hps p hp).r]; exact dr_stand (hps p hp) h2, hnd⟩
theorem mok_mir {n : Nat} {ps : List Pc} (h1 : 1 ≤ n) (h2 : n ≤ 2) (hl : 1 ≤ ps.length ∧ ps.length ≤ 60) (hps : ∀ p ∈ ps, Dr p n) (hnd : ps.Nodup) : MOk n (ps.map mirQ) := by
  refine ⟨⟨h1, h2⟩, by rw [List.length_map]; exact hl, fun p hp => ?_, fun p hp => ?_, nodup_map mirQ (fun a _ => mir_mir a) hnd⟩
  · obtain ⟨q, hq, rfl⟩ := List.mem_map.mp hp
    exact wd_mir (hps q hq).w
  · obtain ⟨q, hq, rfl⟩ := List.mem_map.mp hp
    rw [good_stand (p := mirQ q) (hps q hq).r]
    exact mir_stand (hps q hq) h2
end
end T12
end
section
set_option Elab.async false
set_option linter.all false
set_option maxRecDepth 100000
set_option maxHeartbeats 4000000
set_option exponentiation.threshold 5000
namespace T12
open NdefX ClX StX LamX
open PySem PySem.Spec PyProof.Rows L2
section
variable {P : Program} {w : World} {K : PySem.W.Frag} {mg : Str → Option Value} {base : Heap}
abbrev sLawMirrorRight : Stmt := topS 96
abbrev nMirror : List Str := ["_law_wharf_here", "_law_machine", "_law_pieces_here", "_law_wide", "_law_told", "_law_due", "_law_piece_here"]
theorem scLawMirrorRight : FnScope nMirror ["_law_wharf_here", "_law_machine", "_law_pieces_here", "_law_wide"] (C8.fnScope sLawMirrorRight) := ⟨rfl, rfl, rfl, by decide +kernel, rfl, by decide +kernel, by decide +kernel⟩
def spLawMirrorRight (C : Addr) : DSp := fun xs μ Q => ∃ (wa : Addr) (cs : List Int) (t : Int) (n : Nat) (ps : List Pc), xs = [.m wa, .o C (mcF n ps), .d (piecesD ps), .d (.int (n : Nat))] ∧ 1 ≤ n ∧ n ≤ 2 ∧ 1 ≤ ps.length ∧ ps.length ≤ 6 ∧ (∀ p ∈ ps, Dr p n) ∧ ps.Nodup ∧ cs.length ≤ 100 ∧ Wst μ wa cs t ∧ t ≤ 4400 ∧
  ∀ μ', Aft μ wa cs (t + 100) μ' → Q (.d (.bool true)) μ'
theorem ok_law_mirror_right {C : Addr} (T : Tp K mg "_law_mirror_right" sLawMirrorRight ["_law_wharf_here", "_law_machine", "_law_pieces_here", "_law_wide"] []) (M : McT K mg C) (B : Bl mg) (hR : mg "repr" = none) (EQ : EqT P w K mg base C)
    (k_mir : CalK P w K mg base 10 "mirrored" ["machine"] List.reverse (spD K 1 (spMirrored C))) (c_mir : C8.Cal P w K mg base 10 "mirrored" (spD K 1 (spMirrored C)) []) (c_turned : C8.Cal P w K mg base 3 "_law_turned" (spD K 1 spMirroredPiece) []) (c_alike : CalG P w K mg base 11 "_law_goes_alike" (spD K 5 (spLawGoesAlike C))) :
    CalG P w K mg base 13 "_law_mirror_right" (spD K 4 (spLawMirrorRight C)) := by
  refine d_okG (k := 12) T scLawMirrorRight rfl fun f cdv A outer s H E hr hgd xs μ Q hl ⟨wa, cs, t, n, ps, ex, h1, h2, hl1, hl2, hps, hnd, hcs, hw, ht, hq⟩ => ?_
  subst ex
  obtain ⟨fq, fdq, OE, FQ, BQ⟩ := EQ.ex
  have hl60 : 1 ≤ ps.length ∧ ps.length ≤ 60 := ⟨hl1, by omega⟩
  have pk : PsOk n ps := ⟨h2, by omega, fun p hp => (hps p hp).w, fun p hp => ⟨60, 360, (hps p hp).pin h2, by decide, by decide, by decide⟩⟩
  have pk2 : PsOk n (ps.map mirQ) := by
    refine ⟨h2, by rw [List.length_map]; omega, fun p hp => ?_, fun p hp => ?_⟩
    · obtain ⟨q, hq, rfl⟩ := List.mem_map.mp hp
      exact wd_mir (hps q hq).w
    · obtain ⟨q, hq, rfl⟩ := List.mem_map.mp hp
      exact ⟨60, 360, mir_in (hps q hq) h2, by decide, by decide, by decide⟩
  have mm : (ps.map mirQ).map mirQ = ps := map_map_id fun p _ => mir_mir p
  have m2 := mok_mir h1 h2 hl60 hps hnd
  have m1 := mok_dr h1 h2 hl60 hps hnd
  refine dss_cons (ds_par (i := 4) (j := 5) scLawMirrorRight.nd (de_callK1 k_mir hr (by decide) (dv 1 ⟨n, ps, rfl, pk, m2, ?_⟩)))
  refine lc1 6 scLawMirrorRight (di_list (dv 2 ⟨_, rfl, ?_, ?_⟩))
  · rw [List.length_map]; omega
  refine dlc_map (e := pieceD) (g := fun p => pieceD (mirQ p)) ps [] (fun p hp => ⟨_, rfl, fun m s0 H0 C0 cl0 fp0 => ?_⟩) ?_
  · exact de_call c_turned hr (by decide) (da_cons (dv 6 (da_nil ⟨rfl, p, 60, 360, rfl, (hps p hp).pin h2, gd_of (by decide) (by decide), (pow100 (a := 360) (b := 400) (by decide) (by decide)), rfl, rfl⟩)))
  rw [List.nil_append]
  have hmm : ps.map (fun p => pieceD (mirQ p)) = (ps.map mirQ).map pieceD := by rw [List.map_map]; rfl
  obtain ⟨s1, s2, s3, s4, s5⟩ := sz_repr (sz_pieces h2 (ps := ps.map mirQ) (by rw [List.length_map]; omega) fun p hp => by
    obtain ⟨q, hq, rfl⟩ := List.mem_map.mp hp
    refine sz_piece (mir_in (hps q hq) h2) (Nat.lt_of_lt_of_le (by decide : 60 < 2 ^ 10) (Nat.pow_le_pow_right (by decide) (by decide))) (Nat.lt_of_lt_of_le (by decide : 360 < 2 ^ 10) (Nat.pow_le_pow_right (by decide) (by decide))) fun x hx => ?_
    obtain ⟨y, hy, rfl⟩ := List.mem_map.mp hx
    have := (hps q hq).c y hy
    exact Nat.le_trans (show (-y - 1).natAbs ≤ 3 by omega) (by decide)) (by decide) (by decide) rfl
  refine dss_cons (ds_if (dt_w (dw_or (dt_cmp (dc_neS (de_repr hR hr hgd (de_lst (da_cons (de_fld M.cl M.nW (dv 4 ⟨_, _, rfl, rfl, da_cons (de_fld M.cl M.nP (dv 4 ⟨_, _, rfl, rfl, da_nil ⟨_, rfl, rfl, _, rfl, s1, s2, s3, s4, s5, ?_⟩⟩))⟩))))))))))
  refine de_repr hR hr hgd (de_lst (da_cons (dv 3 (da_cons (de_tuple B.tuple (dv 5 ⟨_, rfl, da_nil ⟨_, rfl, rfl, _, rfl, ?_⟩⟩))))))
  rw [hmm]
  refine ⟨s1, s2, s3, s4, s5, _, _, rfl, rfl, _, rfl, ?_⟩
  rw [decide_eq_true rfl]
  refine iteF (dw_or1 (dt_cmp (dc_neO OE FQ BQ hr (by decide) (de_call c_mir hr (by decide) (da_cons (dv 4 (da_nil ⟨rfl, n, ps.map mirQ, rfl, pk2, by rw [mm]; exact m1, ?_⟩)))))))
  rw [mm]
  refine dv 1 ⟨_, _, rfl, rfl, n, ps, rfl, true, rfl, _, rfl, ?_⟩
  refine iteF (dss_nil ?_)
  refine dss_cons (ds_ret (de_callG c_alike hr (by decide) hgd (da_cons (dv 0 (da_cons (dv 2 (da_cons (dv 4 (da_cons (de_non (da_cons (de_int (da_nil ?_)))))))))))))
  refine ⟨rfl, wa, cs, t, n, 2, ps, ps.map mirQ, none, rfl, h2, by decide, hps, ?_, by omega, fun p hp => ?_, List.length_map .., fun s e => (by cases e), alike_of fun p hp => step_mir (hps p hp).w h1 h2, hcs, hw, by omega, hq⟩
  · intro e
    rw [e] at hl1
    exact absurd hl1 (by decide)
  · obtain ⟨q, hq, rfl⟩ := List.mem_map.mp hp
    exact ⟨60, 360, by decide, by decide, by decide, mir_in (hps q hq) h2⟩
end
end T12
end
section
set_option Elab.async false
set_option linter.all false
set_option maxRecDepth 100000
set_option maxHeartbeats 4000000
set_option exponentiation.threshold 5000
namespace T12
open NdefX ClX StX LamX
open PySem PySem.Spec PyProof.Rows L2
section
variable {P : Program} {w : World} {K : PySem.W.Frag} {mg : Str → Option Value} {base : Heap}
abbrev sLawShiftRight : Stmt := topS 95
abbrev nShift : List Str := ["_law_wharf_here", "_law_machine", "_law_pieces_here", "_law_wide", "_law_far", "_law_shift", "_law_due", "_law_told", "_law_place", "_law_piece_here", "_law_step"]
theorem scLawShiftRight : FnScope nShift ["_law_wharf_here", "_law_machine", "_law_pieces_here", "_law_wide"] (C8.fnScope sLawShiftRight) := ⟨rfl, rfl, rfl, by decide +kernel, rfl, by decide +kernel, by decide +kernel⟩
/-- what is drawn: a shift, and the pieces that are due -/
theorem shift_head {C : Addr} {f : Addr} {cdv : Value} {A : Around} {outer : List Env} {s : Shared} {H : Hp} {E : XK} {TT : List (Addr × Str)} {Φ : DEnds} {wa : Addr} {cs : List Int} {t : Int} {n : Nat} {ps : List Pc} {μ : Mu}
    (B : Bl mg) (hr : Room 12 (BD P w K mg base nShift "_law_shift_right" sLawShiftRight f cdv A outer s H E).A) (c_pick : C8.Cal P w K mg base 2 "_law_pick" (spD K 2 (spLawPick K)) []) (c_moor : C8.Cal P w K mg base 1 "_law_moor" (spD K 2 spLawMoor) []) (c_shifted : C8.Cal P w K mg base 4 "_law_shifted" (spD K 2 spLawShifted) [])
    (h1 : 1 ≤ n) (h2 : n ≤ 2) (hl : ps.length ≤ 6) (hps : ∀ p ∈ ps, Dr p n) (hcs : cs.length ≤ 100) (hw : Wst μ wa cs t) (ht : t ≤ 4400)
    (h : ∀ (fr : Int) (sh : List Int) (μ' : Mu) (r8 r9 r10 : Option SV), sh.length = n → (∀ i ∈ sh, i.natAbs ≤ 10000000) → Aft μ wa cs (t + 10) μ' → WSs (BD P w K mg base nShift "_law_shift_right" sLawShiftRight f cdv A outer s H E) TT (List.drop 3 (C8.fnBody sLawShiftRight))
      [some (.m wa), some (.o C (mcF n ps)), some (.d (piecesD ps)), some (.d (.int (n : Nat))), some (.d (.int fr)), some (.d (cornD sh)), some (.d (piecesD (ps.map fun p => movedQ p sh))), none, none, none, none] μ' Φ) :
    WSs (BD P w K mg base nShift "_law_shift_right" sLawShiftRight f cdv A outer s H E) TT (C8.fnBody sLawShiftRight) (startD nShift [.m wa, .o C (mcF n ps), .d (piecesD ps), .d (.int (n : Nat))]) μ Φ := by
  refine wss_s (ds_set (i := 4) scLawShiftRight.nd (de_call c_pick hr (by decide) (da_cons (dv 0 (da_cons (de_lst (da_cons (de_int (da_cons (de_int (da_cons (de_int (da_cons (de_int (da_cons (de_pow (de_int (de_int ⟨_, _, rfl, rfl, ⟨by decide, by decide, by decide⟩, da_nil ⟨_, rfl, rfl, da_nil ?_⟩⟩))))))))))))))))))
  refine ⟨rfl, wa, cs, t, _, [.d (.int 10), .d (.int 10), .d (.int 10), .d (.int 1005), .d (.int 10000000)], rfl, .inl ⟨_, rfl, rfl⟩, by simp, by decide, hcs, hw, by omega, fun y hy m1 ha1 => ?_⟩
  have hf : ∃ fr : Nat, y = .d (.int (fr : Nat)) ∧ fr ≤ 10000000 := by
    simp only [List.mem_cons, List.not_mem_nil, or_false] at hy
    rcases hy with rfl | rfl | rfl | rfl | rfl
    · exact ⟨10, rfl, by decide⟩
    · exact ⟨10, rfl, by decide⟩
    · exact ⟨10, rfl, by decide⟩
    · exact ⟨1005, rfl, by decide⟩
    · exact ⟨10000000, rfl, by decide⟩
  obtain ⟨fr, rfl, hfr⟩ := hf
  refine wss_s (ds_set (i := 5) scLawShiftRight.nd (de_tuple B.tuple (lc1 8 scLawShiftRight (di_range B.range (dv 3 ⟨n, rfl, by omega, by omega, ?_, ?_⟩)))))
  · rw [upto_len]; omega
  refine dlc_inv (e := fun i : Nat => .int (i : Nat)) (fun l acc m => ∃ c : List Int, acc = c.map .int ∧ c.length + l.length = n ∧ (∀ x ∈ c, x.natAbs ≤ 10000000) ∧ Aft m1 wa cs (t + 1 + c.length) m) ?_ ?_ (List.range n) [] _ ⟨[], rfl, by rw [List.length_range, List.length_nil, Nat.zero_add], fun _ h => by simp at h, by simpa using ha1.st.refl⟩
  · rintro i l acc m ⟨c, rfl, hlen, hc, haft⟩
    rw [List.length_cons] at hlen
    refine ⟨_, rfl, fun D hD s0 H0 C0 cl0 fp0 => ?_⟩
    refine de_sub (de_call c_moor hr (by decide) (da_cons (dv 0 (da_cons (de_add (de_mulS (de_int (dv 4 ⟨_, _, rfl, rfl, .inl ⟨by decide, by decide⟩, de_int ⟨_, _, rfl, rfl, da_nil ⟨rfl, wa, cs, t + 1 + c.length, 2 * fr + 1, rfl, hcs, haft.st.put (haft.st.fresh hD), by omega, by omega, by omega, fun r μ' hr2 ha2 => ?_⟩⟩⟩))))))))
    obtain ⟨g1, g2, g3⟩ := turn_draw haft.st hD ha2
    refine dv 4 ⟨_, _, rfl, rfl, _, rfl, g2, c ++ [(r : Int) - fr], by rw [List.map_append]; rfl, by rw [List.length_append, List.length_singleton]; omega, fun x hx => ?_, (haft.trans g1).up (by rw [List.length_append, List.length_singleton]; omega)⟩
    rcases List.mem_append.mp hx with hx | hx
    · exact hc x hx
    · rw [List.mem_singleton] at hx; omega
  rintro acc m2 ⟨sh, rfl, hlen, hc, ha2⟩
  rw [List.length_nil, Nat.add_zero] at hlen
  refine ⟨_, rfl, ?_⟩
  refine wss_s (slc1 6 9 scLawShiftRight (di_list (dv 2 ⟨_, rfl, ?_, ?_⟩)))
  · rw [List.length_map]; omega
  refine dlc_map (e := pieceD) (g := fun p => pieceD (movedQ p sh)) ps [] (fun p hp => ⟨_, rfl, fun m s0 H0 C0 cl0 fp0 => ?_⟩) ?_
  · exact de_call c_shifted hr (by decide) (da_cons (dv 9 (da_cons (dv 5 (da_nil ⟨rfl, p, sh, rfl, (hps p hp).pk h2, by rw [hlen]; exact (hps p hp).w, by omega, by omega, fun i hi => Nat.le_trans (hc i hi) (by decide), rfl, rfl⟩)))))
  rw [List.nil_append, show ps.map (fun p => pieceD (movedQ p sh)) = (ps.map fun p => movedQ p sh).map pieceD by rw [List.map_map]; rfl]
  exact h fr sh m2 none none none hlen hc ((ha1.trans ha2).up (by omega))
end
end T12
end
section
set_option Elab.async false
set_option linter.all false
set_option maxRecDepth 100000
set_option maxHeartbeats 4000000
set_option exponentiation.threshold 5000
namespace T12
open NdefX ClX StX LamX
open PySem PySem.Spec PyProof.Rows L2
section
variable {P : Program} {w : World} {K : PySem.W.Frag} {mg : Str → Option Value} {base : Heap}
def spLawShiftRight (C : Addr) : DSp := fun xs μ Q => ∃ (wa : Addr) (cs : List Int) (t : Int) (n : Nat) (ps : List Pc), xs = [.m wa, .o C (mcF n ps), .d (piecesD ps), .d (.int (n : Nat))] ∧ 1 ≤ n ∧ n ≤ 2 ∧ 1 ≤ ps.length ∧ ps.length ≤ 6 ∧ (∀ p ∈ ps, Dr p n) ∧ ps.Nodup ∧ cs.length ≤ 100 ∧ Wst μ wa cs t ∧ t ≤ 4300 ∧
  ∀ μ', Aft μ wa cs (t + 110) μ' → Q (.d (.bool true)) μ'
theorem moved_rows {p : Pc} {s : List Int} : (movedQ p s).rows = p.rows := rfl
theorem stands_all {ps : List Pc} {s : List Int} {n : Nat} (hps : ∀ p ∈ ps, Dr p n) : (ps.map fun p => movedQ p s).all goodPc = standsQ (ps.map fun p => movedQ p s) :=
  good_all fun p hp => by
    obtain ⟨q, hq, rfl⟩ := List.mem_map.mp hp
    exact (hps q hq).r
theorem ok_law_shift_right {C CM CN CF CT c Pt : Addr} {TT : List (Addr × Str)} (T : Tp K mg "_law_shift_right" sLawShiftRight ["_law_wharf_here", "_law_machine", "_law_pieces_here", "_law_wide"] []) (hcode : ∀ f fd, C8.Def K mg "_law_shift_right" sLawShiftRight f fd → fd.code = .ref c)
    (TB : TabB base mg c Pt) (hmT : (Pt, lamQ "_law_shift_right" sLawShiftRight) ∈ TT) (hu : ∀ p ∈ TT, p.1 = Pt → p.2 = lamQ "_law_shift_right" sLawShiftRight) (TH : Tp K mg "_law_heard" sLawHeard ["_law_ask"] []) (HT : HeardT K mg CT CM CN CF) (M : McT K mg C) (B : Bl mg) (hR : mg "repr" = none) (EQ : EqT P w K mg base C)
    (c_pick : C8.Cal P w K mg base 2 "_law_pick" (spD K 2 (spLawPick K)) []) (c_moor : C8.Cal P w K mg base 1 "_law_moor" (spD K 2 spLawMoor) []) (c_shifted : C8.Cal P w K mg base 4 "_law_shifted" (spD K 2 spLawShifted) []) (c_stands : C8.Cal P w K mg base 2 "_law_stands" (spD K 1 spLawStands) []) (c_movedX : CalX P w K mg base 10 "moved" (spX K 2 (spMovedX K C CM CN CF)) [])
    (c_moved : C8.Cal P w K mg base 10 "moved" (spD K 2 (spMoved C)) []) (k_moved : CalK P w K mg base 10 "moved" ["shift", "machine"] List.reverse (spD K 2 (spMoved C))) (c_alike : CalG P w K mg base 11 "_law_goes_alike" (spD K 5 (spLawGoesAlike C))) :
    CalG P w K mg base 13 "_law_shift_right" (spW K TT 4 (spLawShiftRight C)) := by
  refine d_okW (k := 12) T hcode scLawShiftRight rfl fun f A outer s H E hr hgd xs μ Q hl ⟨wa, cs, t, n, ps, ex, h1, h2, hl1, hl2, hps, hnd, hcs, hw, ht, hq⟩ => ?_
  subst ex
  obtain ⟨fq, fdq, OE, FQ, BQ⟩ := EQ.ex
  have hl60 : 1 ≤ ps.length ∧ ps.length ≤ 60 := ⟨hl1, by omega⟩
  have hr10 : Room (10 + 2) (BD P w K mg base nShift "_law_shift_right" sLawShiftRight f (.ref c) A outer s H E).A := hr
  refine shift_head B hr c_pick c_moor c_shifted h1 h2 hl2 hps hcs hw (by omega) fun fr sh m _ _ _ hsl hsh ha => ?_
  have hs30 : ∀ i ∈ sh, i.natAbs ≤ 2 ^ 30 := fun i hi => Nat.le_trans (hsh i hi) (by decide)
  have hs100 : ∀ i ∈ sh, i.natAbs < 2 ^ 100 := fun i hi => Nat.lt_of_le_of_lt (hs30 i hi) (Nat.pow_lt_pow_right (by decide) (by decide))
  have pk : PsOk n ps := ⟨h2, by omega, fun p hp => (hps p hp).w, fun p hp => ⟨60, 360, (hps p hp).pin h2, by decide, by decide, by decide⟩⟩
  have hn : NPs [some (.m wa), some (.o C (mcF n ps)), some (.d (piecesD ps)), some (.d (.int (n : Nat))), some (.d (.int fr)), some (.d (cornD sh)), some (.d (piecesD (ps.map fun p => movedQ p sh))), none, none, none, none] := nps_of fun o ho x e => by
    simp only [List.mem_cons, List.not_mem_nil, or_false] at ho
    rcases ho with rfl | rfl | rfl | rfl | rfl | rfl | rfl | rfl | rfl | rfl | rfl <;> cases e <;> trivial
  have hwd : ∀ p ∈ ps.map fun p => movedQ p sh, p.Wd n := fun p hp => by
    obtain ⟨q, hq, rfl⟩ := List.mem_map.mp hp
    exact wd_moved (hps q hq).w hsl
  refine wss_cons (ws_if hn (wt_of (dt_not (dt_val (de_call c_stands hr (by decide) (da_cons (dv 6 (da_nil ⟨rfl, ps.map fun p => movedQ p sh, rfl, fun p hp => by rw [(hwd p hp).c, (hwd p hp).s]; exact ⟨h2, h2⟩, _, rfl, ?_⟩))))))))
  by_cases hst : standsQ (ps.map fun p => movedQ p sh) = true
  · rw [hst]
    refine iteF (wss_nil ?_)
    have hg : ∀ p ∈ ps.map fun p => movedQ p sh, standP p = true := List.all_eq_true.mp hst
    have hin : ∀ p ∈ ps, (movedQ p sh).In 60 (60 * 1000000) := fun p hp => pk_moved (hps p hp) h2 hsl hs30 (hg _ (List.mem_map.mpr ⟨p, hp, rfl⟩))
    have back : (ps.map fun p => movedQ p sh).map (fun p => movedQ p (sh.map fun i => -i)) = ps := map_map_id fun p hp => there_back_p (hps p hp).w h1 h2 hsl
    have m2 : MOk n (ps.map fun p => movedQ p sh) := by
      refine ⟨⟨h1, h2⟩, by rw [List.length_map]; exact hl60, hwd, fun p hp => ?_, nodup_map (fun p => movedQ p (sh.map fun i => -i)) (fun p hp => there_back_p (hps p hp).w h1 h2 hsl) hnd⟩
      have := stands_all (s := sh) hps
      rw [hst] at this
      exact List.all_eq_true.mp this p hp
    have m1 := mok_dr h1 h2 hl60 hps hnd
    have pk2 : PsOk n (ps.map fun p => movedQ p sh) := by
      refine ⟨h2, by rw [List.length_map]; omega, hwd, fun p hp => ?_⟩
      obtain ⟨q, hq, rfl⟩ := List.mem_map.mp hp
      exact ⟨60, 60 * 1000000, hin q hq, by decide, by decide, by decide⟩
    refine wss_of ?_
    refine dss_cons (ds_set (i := 7) scLawShiftRight.nd (de_callK2 k_moved hr (by decide) (de_list B.list (dv 5 ⟨sh.map .int, rfl, dv 1 ⟨n, ps, .list (sh.map .int), sh, rfl, .inl rfl, hsl, pk, hs100, m2, ?_⟩⟩))))
    obtain ⟨s1, s2, s3, s4, s5⟩ := sz_repr (sz_pieces h2 (ps := ps.map fun p => movedQ p sh) (by rw [List.length_map]; omega) fun p hp => by
      obtain ⟨q, hq, rfl⟩ := List.mem_map.mp hp
      refine sz_piece (hin q hq) (Nat.lt_of_lt_of_le (by decide : 60 < 2 ^ 10) (Nat.pow_le_pow_right (by decide) (by decide))) (Nat.lt_of_lt_of_le (by decide : 60 * 1000000 < 2 ^ 30) (Nat.pow_le_pow_right (by decide) (by decide))) fun x hx => ?_
      have := (standP_c (hg _ (List.mem_map.mpr ⟨q, hq, rfl⟩))).1 x hx
      exact Nat.le_trans this (by decide)) (by decide) (by decide) rfl
    refine dss_cons (ds_if (dt_w (dw_or (dt_cmp (dc_neS (de_repr hR hr hgd (de_lst (da_cons (de_fld M.cl M.nW (dv 7 ⟨_, _, rfl, rfl, da_cons (de_fld M.cl M.nP (dv 7 ⟨_, _, rfl, rfl, da_nil ⟨_, rfl, rfl, _, rfl, s1, s2, s3, s4, s5, ?_⟩⟩))⟩))))))))))
    refine de_repr hR hr hgd (de_lst (da_cons (dv 3 (da_cons (de_tuple B.tuple (dv 6 ⟨_, rfl, da_nil ⟨_, rfl, rfl, _, rfl, s1, s2, s3, s4, s5, _, _, rfl, rfl, _, rfl, ?_⟩⟩))))))
    rw [decide_eq_true rfl]
    refine iteF (dw_or1 (dt_cmp (dc_neO OE FQ BQ hr (by decide) (de_call c_moved hr (by decide) (da_cons (dv 7 (da_cons (lc1 10 scLawShiftRight (di_tup (dv 5 ⟨_, rfl, ?_, ?_⟩))))))))))
    · rw [List.length_map]; omega
    refine dlc_map (e := .int) (g := fun i => .int (-i)) sh [] (fun i hi => ⟨_, rfl, fun m s0 H0 C0 cl0 fp0 => ?_⟩) ?_
    · exact de_neg (dv 10 ⟨_, rfl, rfl, rfl⟩)
    rw [List.nil_append]
    refine da_nil ⟨rfl, n, ps.map fun p => movedQ p sh, .list (sh.map fun i => .int (-i)), sh.map fun i => -i, rfl, .inl (by rw [List.map_map]; rfl), by rw [List.length_map]; exact hsl, pk2, fun i hi => ?_, by rw [back]; exact m1, ?_⟩
    · obtain ⟨j, hj, rfl⟩ := List.mem_map.mp hi
      rw [Int.natAbs_neg]; exact hs100 j hj
    rw [back]
    refine dv 1 ⟨_, _, rfl, rfl, n, ps, rfl, true, rfl, _, rfl, ?_⟩
    refine iteF (dss_nil ?_)
    refine dss_cons (ds_ret (de_callG c_alike hr (by decide) hgd (da_cons (dv 0 (da_cons (dv 2 (da_cons (dv 7 (da_cons (dv 5 (da_cons (de_int (da_nil ?_)))))))))))))
    refine ⟨rfl, wa, cs, t + 10, n, 2, ps, ps.map fun p => movedQ p sh, some sh, rfl, h2, by decide, hps, ?_, by omega, fun p hp => ?_, List.length_map .., fun s e => (by cases e; exact ⟨hsl, hs30⟩), alike_of fun p hp => step_moved (hps p hp).w h1 h2 hsl, hcs, ha.st, by omega, fun μ' h' => hq μ' ((ha.trans h').up (by omega))⟩
    · intro e
      rw [e] at hl1
      exact absurd hl1 (by decide)
    · obtain ⟨q, hq, rfl⟩ := List.mem_map.mp hp
      exact ⟨60, 60 * 1000000, by decide, by decide, by decide, hin q hq⟩
  · have hst' : standsQ (ps.map fun p => movedQ p sh) = false := by simpa using hst
    rw [hst']
    refine iteT ?_
    refine wss_cons (ws_ret ?_)
    refine we_eqD hn hr (we_heard (pe_heard TH HT B.isinstance TB rfl hmT hu hr10 (fun A outer s H E f c' hr2 => lam_body2 (i := 1) (j := 5) c_movedX (Nat.le_refl _) hr2 rfl rfl rfl rfl rfl (by decide) (by decide) (by decide) (by decide) (by decide)) (lamS_by (sc := C8.fnScope sLawShiftRight) (by decide +kernel))) hn
      (fun σ H1 R => ask2 rfl rfl (.inr (.inr ⟨n, ps, _, sh, rfl, .inr rfl, hsl, pk, hs100, by rw [stands_all hps]; exact hst', rfl, rfl⟩)) σ H1 R) (.inr ⟨CF, "shift", "misfit", rfl, .inr (.inr ⟨rfl, rfl⟩), rfl⟩) ⟨_, rfl, ?_⟩)
    refine de_tup (da_cons (de_str (da_cons (de_str (da_nil ⟨_, rfl, rfl, _, rfl, ?_, ?_, ?_⟩)))))
    · decide +kernel
    · decide +kernel
    rw [show PyData.eqv (.tuple [.str "misfit", .str "shift"]) (.tuple [.str "misfit", .str "shift"]) = true by decide +kernel]
    exact hq m (ha.up (by omega))
end
end T12
end
section
set_option Elab.async false
set_option linter.all false
set_option maxRecDepth 100000
set_option maxHeartbeats 4000000
set_option exponentiation.threshold 5000
namespace T12
open NdefX ClX StX LamX
open PySem PySem.Spec PyProof.Rows L2
section
variable {X : Cx} {T : List (Addr × Str)} {ρ : Sl} {μ : Mu} {Φ : DEnds} {body : List Stmt} {p p0 p1 pos pos' : Pos}
/-- for x in range(m), weak turns -/
theorem ws_forR {i j m : Nat} {nm : Str} (I : Nat → Sl → Mu → Prop) (hp : PassesOwn (model X.prog X.w) X.A X.env X.xe) (hm : X.mg "range" = none) (hm2 : m ≤ 1000) (hN : X.N.Nodup) (hi : X.N[i]? = some nm) (hx : Loc X.env.scope nm) (hfn : X.fn nm = true ∨ X.env.scope.names.lookup nm = some .local)
    (h0 : I m ρ μ) (step : ∀ (k n : Nat) ρ' μ', I (n + 1) ρ' μ' → WSs X T body (ρ'.set i (some (.d (.int (k : Nat))))) μ' { Φ with nx := I n, ct := I n, bk := Φ.nx }) (last : ∀ ρ' μ', I 0 ρ' μ' → Φ.nx ρ' μ')
    (hg : Gl X "range" := by rfl) (hc : X.calm = true := by rfl) (hs1 : starEach [.Constant (.int (m : Nat)) j p0] X.env = [(false, eval (.Constant (.int (m : Nat)) j p0) X.env)] := by rfl) (hs1' : starEach (.Constant (.int (m : Nat)) j p0 :: []) X.env = (false, eval (.Constant (.int (m : Nat)) j p0) X.env) :: starEach [] X.env := by rfl) (hs : ∀ x, foldedSetIterable (.Call (.Name "range" p) [.Constant (.int (m : Nat)) j p0] [] pos) X.env x = pure x := by intro _; rfl) :
    WS X T (.For (.Name nm p1) (.Call (.Name "range" p) [.Constant (.int (m : Nat)) j p0] [] pos) body [] pos') ρ μ Φ := fun σ H R hT D k =>
  cS_of (ps_for hp hc (pi_range1 hg hm (pa_cons pe_int pa_nil hs1') hs1) (pg_name hN hi hx hfn) (pss_k body) hs) (by
    refine ⟨(m : Nat), rfl, by omega, by omega, fun a n σ' H' => a + n = m ∧ ∃ ρ' μ', I n ρ' μ' ∧ Rep X.K ρ' μ' σ' H' ∧ ExtN (hid H μ) (hid H' μ') ∧ Tabs T (hid H' μ'), ⟨m, by omega, ρ, μ, h0, R, ExtN.refl _, hT⟩, ?_⟩
    rintro a n σ' H' ⟨hn, ρ', μ', hI, R', e', t'⟩
    cases n with
    | zero =>
      refine .inl ⟨?_, k.nx ρ' μ' σ' H' (last ρ' μ' hI) e' t' R'⟩
      show ((m : Nat) : Int).toNat ≤ a
      omega
    | succ n =>
      refine .inr ⟨?_, fun σ3 H3 => a + 1 + n = m ∧ ∃ ρ3 μ3, I n ρ3 μ3 ∧ Rep X.K ρ3 μ3 σ3 H3 ∧ ExtN (hid H μ) (hid H3 μ3) ∧ Tabs T (hid H3 μ3), fun σ3 H3 z => ⟨n, by omega, z⟩, fun x H2 y => ?_⟩
      · show a < ((m : Nat) : Int).toNat
        omega
      · obtain ⟨y1, y2⟩ := y
        subst y1; subst y2
        refine step a n ρ' μ' hI _ _ (R'.set (x := .d (.int (a : Nat))) (by rw [Int.zero_add]; exact .int _)) t' _ ?_
        have again : WN X.K T (I n) _ μ' (fun σ3 H3 => a + 1 + n = m ∧ ∃ ρ3 μ3, I n ρ3 μ3 ∧ Rep X.K ρ3 μ3 σ3 H3 ∧ ExtN (hid H μ) (hid H3 μ3) ∧ Tabs T (hid H3 μ3)) := fun ρ3 μ3 σ3 H3 q e3 t3 R3 => ⟨by omega, ρ3, μ3, q, R3, e'.trans e3, t3⟩
        exact ⟨again, k.rt.from e', k.nx.from e', again⟩)
end
end T12
end
section
set_option Elab.async false
set_option linter.all false
set_option maxRecDepth 100000
set_option maxHeartbeats 4000000
set_option exponentiation.threshold 5000
namespace T12
open NdefX ClX StX LamX
open PySem PySem.Spec PyProof.Rows L2
/-- what a name holds may be forgotten -/
theorem Rep.drop {K : PySem.W.Frag} {ρ : Sl} {μ : Mu} {σ : L2.St} {H : Hp} (r : Rep K ρ μ σ H) (i : Nat) : Rep K (ρ.set i none) μ σ H := by
  refine ⟨fun j y e => ?_, r.mu, by rw [List.length_set]; exact r.len⟩
  by_cases q : i = j
  · subst q
    have hi : i < ρ.length := by
      have z := (List.getElem?_eq_some_iff.mp e).1
      rw [List.length_set] at z
      exact z
    rw [List.getElem?_set_self hi] at e
    cases e
  · rw [List.getElem?_set_ne q] at e
    exact r.sl j y e
theorem wss_drop {X : Cx} {T : List (Addr × Str)} {ρ : Sl} {μ : Mu} {Φ : DEnds} {sts : List Stmt} (i : Nat) (h : WSs X T sts (ρ.set i none) μ Φ) : WSs X T sts ρ μ Φ := fun σ H R hT D k => h σ H (R.drop i) hT D k
section
variable {P : Program} {w : World} {K : PySem.W.Frag} {mg : Str → Option Value} {base : Heap}
abbrev sLaw : Stmt := topS 98
abbrev nLaw : List Str := ["_law_script", "_law_wharf_here", "_law_turn", "_law_wide", "_law_pieces_here", "_law_machine"]
theorem scLaw : FnScope nLaw ["_law_script"] (C8.fnScope sLaw) := ⟨rfl, rfl, rfl, by decide +kernel, rfl, by decide +kernel, by decide +kernel⟩
def spLaw (K : PySem.W.Frag) : DSp := fun xs μ Q => ∃ (ns : List Int), xs = [.pr (scR K ns)] ∧ ∀ μ', Q (.d (.bool true)) μ'
/-- a def that calls defs that make lambdas, by whatever function object stands for it -/
theorem d_okWF {x : Str} {st : Stmt} {N ps : List Str} {k n : Nat} {dsp : DSp} {TT : List (Addr × Str)} (S : FnScope N ps (C8.fnScope st)) (hn : ps.length = n)
    (h : ∀ (f : Addr) (cdv : Value) (A : Around) (outer : List Env) (s : Shared) (H : Hp) (E : XK), Room k (BD P w K mg base N x st f cdv A outer s H E).A → (BD P w K mg base N x st f cdv A outer s H E).A.guards = some [] → ∀ (xs : List SV) (μ : Mu) (Q : SV → Mu → Prop), xs.length = n → dsp xs μ Q →
      WSs (BD P w K mg base N x st f cdv A outer s H E) TT (C8.fnBody st) (startD N xs) μ { nx := fun _ m => Q (.d .none) m, rt := Q }) (f : Addr) (fd : FuncData) (F : C8.Def K mg x st f fd) : FnG P w K mg base (k + 1) f fd ps (spW K TT n dsp) := by
  obtain ⟨oc, od, dV, kV, doc, pm, an, cdv, ct, osl, rfl, lk, hcd⟩ := F.fn.ex
  refine fnG_of lk hcd S (fun vs H Q E ⟨xs, μ, P', hl, _, _, r, _, _⟩ => by rw [← Paired.length r, hl, hn]) fun A outer s H vs Q E hr hgd hsp => ?_
  obtain ⟨xs, μ, P', hl, m, hT, r, q, kk⟩ := hsp
  have body := h f cdv A outer s H E hr hgd xs μ P' hl q
  refine ⟨cSs (BD P w K mg base N x st f cdv A outer s H E) (C8.fnBody st), (pss_k (X := BD P w K mg base N x st f cdv A outer s H E) _).nox, ?_⟩
  refine body (L2.start N vs) H (rep_start m r) hT _ ⟨fun ρ' μ' σ' H' z e1 t1 R1 => ?_, kk, fun _ _ _ _ z => z.elim, fun _ _ _ _ z => z.elim⟩
  exact kk _ μ' _ H' z e1 R1.mu t1 .non
theorem fn_law {C : Addr} {TT : List (Addr × Str)} (B : Bl mg)
    (c_wharf : C8.Cal P w K mg base 1 "_law_wharf" (spD K 1 (spLawWharf K)) []) (c_moor : C8.Cal P w K mg base 1 "_law_moor" (spD K 2 spLawMoor) []) (c_pieces : C8.Cal P w K mg base 5 "_law_pieces" (spD K 3 spLawPieces) []) (c_mk : C8.Mak P w K mg base 7 "Machine" C (spMcI K C) [])
    (c_shift : CalG P w K mg base 13 "_law_shift_right" (spW K TT 4 (spLawShiftRight C))) (c_mir : CalG P w K mg base 13 "_law_mirror_right" (spD K 4 (spLawMirrorRight C))) (c_ref : CalG P w K mg base 13 "_law_refused_right" (spW K TT 3 (spLawRefused C))) :
    ∀ f fd, C8.Def K mg "law" sLaw f fd → FnG P w K mg base 14 f fd ["_law_script"] (spW K TT 1 (spLaw K)) := by
  refine d_okWF (k := 13) scLaw rfl fun f cdv A outer s H E hr hgd xs μ Q hl ⟨ns, ex, hq⟩ => ?_
  subst ex
  have hcs : (cutI ns 58).length ≤ 100 := Nat.le_trans (cut58 ns) (by decide)
  refine wss_s (ds_set (i := 1) scLaw.nd (de_call c_wharf hr (by decide) (da_cons (dv 0 (da_nil ⟨rfl, ns, rfl, fun wa hwa => ?_⟩)))))
  refine wss_drop 0 ?_
  have hw0 : Wst (put μ wa (whD (cutI ns 58) 0 0)) wa (cutI ns 58) 0 := ⟨0, 0, by decide, by decide, by decide, put_same⟩
  generalize put μ wa (whD (cutI ns 58) 0 0) = μ0 at hw0
  refine wss_cons (ws_forR (i := 2) (m := 2) (fun n ρ m => (∃ r2 r3 r4 r5, ρ = [none, some (.m wa), r2, r3, r4, r5]) ∧ n ≤ 2 ∧ Wst m wa (cutI ns 58) (500 * (2 - (n : Nat)))) .never B.range (by decide) scLaw.nd rfl (Or.inl rfl) (.inr rfl) ⟨⟨none, none, none, none, rfl⟩, Nat.le_refl _, hw0.up (by decide)⟩ ?_ ?_)
  · rintro k n ρ m ⟨⟨r2, r3, r4, r5, rfl⟩, hn2, hw⟩
    refine wss_s (ds_set (i := 3) scLaw.nd (de_add (de_int (de_call c_moor hr (by decide) (da_cons (dv 1 (da_cons (de_int (da_nil ⟨rfl, wa, cutI ns 58, _, 2, rfl, hcs, hw, by omega, by decide, by decide, fun r μ1 hr1 ha1 => ⟨_, _, rfl, rfl, ?_⟩⟩)))))))))
    dsimp only
    rw [show (1 : Int) + (r : Nat) = ((r + 1 : Nat) : Int) by omega]
    refine wss_s (ds_set (i := 4) scLaw.nd (de_call c_pieces hr (by decide) (da_cons (dv 1 (da_cons (dv 3 (da_cons (de_add (de_int (de_call c_moor hr (by decide) (da_cons (dv 1 (da_cons (de_int (da_nil ⟨rfl, wa, cutI ns 58, _, 6, rfl, hcs, ha1.st, by omega, by decide, by decide, fun r' μ2 hr2 ha2 => ⟨_, _, rfl, rfl, da_nil ⟨rfl, wa, cutI ns 58, _, r + 1, r' + 1, ?_, by omega, by omega, by omega, hcs, ha2.st, by omega, fun ps μ3 hps hnd hl1 hl2 ha3 => ?_⟩⟩⟩)))))))))))))))
    · rw [show (1 : Int) + (r' : Nat) = ((r' + 1 : Nat) : Int) by omega]
    have hl60 : 1 ≤ ps.length ∧ ps.length ≤ 60 := ⟨hl1, by omega⟩
    refine wss_s (ds_set (i := 5) scLaw.nd (de_mkMachine c_mk hr (by decide) (da_cons (dv 3 (da_cons (dv 4 (da_nil ⟨r + 1, ps, rfl, mok_dr (by omega) (by omega) hl60 hps hnd, ?_⟩)))))))
    have hn : NPs [none, some (.m wa), some (.d (.int (k : Nat))), some (.d (.int ((r + 1 : Nat) : Int))), some (.d (piecesD ps)), some (.o C (mcF (r + 1) ps))] := nps_of fun o ho x e => by
      simp only [List.mem_cons, List.not_mem_nil, or_false] at ho
      rcases ho with rfl | rfl | rfl | rfl | rfl | rfl <;> cases e <;> trivial
    refine wss_cons (ws_if hn (wt_w (ww_or hn (wt_not (wt_val (we_call c_shift hr (by decide) hgd (da_cons (dv 1 (da_cons (dv 5 (da_cons (dv 4 (da_cons (dv 3 (da_nil ⟨rfl, wa, cutI ns 58, _, r + 1, ps, rfl, by omega, by omega, hl1, hl2, hps, hnd, hcs, ha3.st, by omega, fun μ4 ha4 => ⟨true, rfl, iteF ?_⟩⟩)))))))))))))))
    refine ww_or1 (wt_of (dt_not (dt_val (de_callG c_mir hr (by decide) hgd (da_cons (dv 1 (da_cons (dv 5 (da_cons (dv 4 (da_cons (dv 3 (da_nil ⟨rfl, wa, cutI ns 58, _, r + 1, ps, rfl, by omega, by omega, hl1, hl2, hps, hnd, hcs, ha4.st, by omega, fun μ5 ha5 => ⟨true, rfl, iteF (wss_nil ?_)⟩⟩)))))))))))))
    refine wss_cons (ws_if hn (wt_not (wt_val (we_call c_ref hr (by decide) hgd (da_cons (dv 1 (da_cons (dv 5 (da_cons (dv 3 (da_nil ⟨rfl, wa, cutI ns 58, _, r + 1, ps, rfl, by omega, by omega, hcs, ha5.st, by omega, fun μ6 ha6 => ⟨true, rfl, iteF (wss_nil (wss_nil ⟨⟨_, _, _, _, rfl⟩, by omega, ?_⟩))⟩⟩)))))))))))
    exact ha6.st.up (by omega)
  · rintro ρ m ⟨⟨r2, r3, r4, r5, rfl⟩, _, hw⟩
    exact wss_cons (ws_of (ds_ret (de_bl (hq _))))
end
end T12
end
section
set_option Elab.async false
set_option linter.all false
set_option maxRecDepth 100000
set_option maxHeartbeats 4000000
set_option exponentiation.threshold 5000
namespace T12
open NdefX ClX StX LamX
open PySem PySem.Spec PyProof.Rows L2
/-! ### the law's own call, by a promise under guards -/
/-- what is tracked at its entry: the tables of code, which are empty; the script, if the text does not hold it itself -/
def ent (K : PySem.W.Frag) (tb : List Addr) (a : Addr) (o : Obj) (xs : List V) : Hp := fun b =>
  if b ∈ tb then some (.tbl #[]) else if b = a ∧ K.lookup a = none then some (.frz o (.lst xs)) else none
section
variable {K : PySem.W.Frag} {tb : List Addr} {a b : Addr} {o : Obj} {xs : List V}
theorem ent_tab (h : b ∈ tb) : ent K tb a o xs b = some (.tbl #[]) := if_pos h
theorem ent_own (h : a ∉ tb) (hk : K.lookup a = none) : ent K tb a o xs a = some (.frz o (.lst xs)) := by
  unfold ent
  rw [if_neg h, if_pos ⟨rfl, hk⟩]
theorem ent_off (h : b ∉ tb) (hk : b = a → K.lookup a ≠ none) : ent K tb a o xs b = none := by
  unfold ent
  rw [if_neg h, if_neg fun z => hk z.1 z.2]
theorem ent_is {u : HO} (h : ent K tb a o xs b = some u) : (b ∈ tb ∧ u = .tbl #[]) ∨ (b = a ∧ K.lookup a = none ∧ u = .frz o (.lst xs)) := by
  by_cases h1 : b ∈ tb
  · rw [ent_tab h1] at h
    exact .inl ⟨h1, (Option.some.inj h).symm⟩
  · by_cases h2 : b = a ∧ K.lookup a = none
    · refine .inr ⟨h2.1, h2.2, ?_⟩
      unfold ent at h
      rw [if_neg h1, if_pos h2] at h
      exact (Option.some.inj h).symm
    · rw [ent_off h1 fun e hk => h2 ⟨e, hk⟩] at h
      cases h
end
section
variable {P : Program} {w : World} {K : PySem.W.Frag} {mg mb : Str → Option Value} {k : Nat} {fa a : Addr} {cs : List (Addr × Addr)} {fd : FuncData} {x : Str} {sp : Sp} {s₁ : Shared} {vs : List Value} {ns : List Int}
abbrev scO (vs : List Value) : Obj := { cls := .type "list", data := .seq vs.toArray }
abbrev entL (K : PySem.W.Frag) (cs : List (Addr × Addr)) (a : Addr) (vs : List Value) (ns : List Int) : Hp := ent K (cs.map (·.2)) a (scO vs) (ns.map V.int)
theorem law_callG (KX : K.In s₁.heap) (hns : s₁.heap.Ns mainGlobals mg) (hb : s₁.heap.Ns builtinsNs mb) (hbb : ∀ y : Str, y ≠ "__name__" → mb y = bootBuiltins y) (hlim : s₁.heap.NoLimit) (hg : s₁.gens = #[])
    (hT : ∀ p ∈ cs, s₁.heap.get? p.2 = some { cls := .none, data := .fields #[] }) (nT : ∀ p ∈ cs, K.lookup p.2 = none) (hC : ∀ p ∈ cs, PySem.W.CodeHd s₁.heap p.1 p.2)
    (hbm : ∃ (bm : Addr) (ob : Obj), mg "__builtins__" = some (.ref bm) ∧ bm ≠ builtinsNs ∧ s₁.heap.get? bm = some ob ∧ ob.cls = .type "module" ∧ ob.dict = some builtinsNs ∧ ob.data = .plain)
    (ha : s₁.heap.get? a = some (scO vs)) (hi : IntsAre vs ns) (hl : ns.length ≤ sizeLine) (hr : Room k callerA)
    (F : ∀ base : Heap, K.In base → base.Ns mainGlobals mg → (∀ p ∈ cs, TabB base mg p.1 p.2) → FnG P w K mg base k fa fd [x] sp) (hbind : ∀ (s : Shared) (u : Value), BindsTo s fd ⟨[u], []⟩ [(x, u)])
    (hsp : ∀ H : Hp, (∀ p ∈ cs, H p.2 = some (.tbl #[])) → SqL K H a (ns.map V.int) → sp [.ref a] H (fun v _ => v = .bl true) C8.E0) :
    codeAny (model P w) callerA (.call (.ref fa) ⟨[.ref a], []⟩) (fun r s' => r = .ok (.ret (.bool true)) ∧ OldK s₁.heap s'.heap ∧ s'.os = s₁.os ∧ AllBare s'.gens) s₁ := by
  have rv := vals_ints hi
  have inT : ∀ {p}, p ∈ cs → p.2 ∈ cs.map (·.2) := fun hp => List.mem_map_of_mem hp
  have tabO : ∀ {b}, b ∈ cs.map (·.2) → s₁.heap.get? b = some { cls := .none, data := .fields #[] } ∧ K.lookup b = none ∧ ∃ c, PySem.W.CodeHd s₁.heap c b := fun hq => by
    obtain ⟨p, hp, rfl⟩ := List.mem_map.mp hq
    exact ⟨hT p hp, nT p hp, p.1, hC p hp⟩
  have aT : a ∉ cs.map (·.2) := fun z => by
    have e := (tabO z).1
    rw [ha] at e
    exact absurd (congrArg Obj.data (Option.some.inj e)) (fun y => by cases y)
  -- whatever is neither an empty table nor a list stays untracked
  have off : ∀ {b : Addr} {o : Obj}, s₁.heap.get? b = some o → o.data ≠ .fields #[] → (∀ l n, o.data ≠ .seq l n) → entL K cs a vs ns b = none := fun {b o} e h1 h2 => by
    refine ent_off (fun z => ?_) fun z _ => ?_
    · rw [(tabO z).1] at e
      exact h1 (congrArg Obj.data (Option.some.inj e)).symm
    · rw [z, ha] at e
      exact h2 _ _ (congrArg Obj.data (Option.some.inj e)).symm
  have nsB : ∀ {b : Addr} {m : Str → Option Value}, s₁.heap.Ns b m → (hidT s₁.heap (entL K cs a vs ns)).Ns b m := fun ⟨o, es, ep, e, d, r⟩ =>
    ⟨o, es, ep, hidT_get e (off e (by rw [d]; intro z; cases z) (by rw [d]; intro l n z; cases z)), d, r⟩
  have KB : K.In (hidT s₁.heap (entL K cs a vs ns)) := fun b o e => hidT_get (KX b o e) (ent_off (fun z => by rw [(tabO z).2.1] at e; cases e) fun z hk => by rw [z, hk] at e; cases e)
  have hM : L2.Mod K mg (hidT s₁.heap (entL K cs a vs ns)) := ⟨KB, nsB hns, ⟨mb, nsB hb, hbb⟩, hlim.imp fun _ z => ⟨nsB z.1, z.2⟩⟩
  have TB : ∀ p ∈ cs, TabB (hidT s₁.heap (entL K cs a vs ns)) mg p.1 p.2 := fun p hp => by
    have tp := hT p hp
    refine ⟨?_, ?_, fun z => ?_⟩
    · obtain ⟨o, us, file, tf, flags, tg, inF, text, tt, e1, r1, r2, r3, r⟩ := hC p hp
      exact ⟨o, us, file, tf, flags, tg, inF, text, tt, hidT_get e1 (off e1 (by rw [r2]; intro z; cases z; simp at r3) (by rw [r2]; intro l n z; cases z)), r1, r2, r3, r⟩
    · obtain ⟨bm, ob, b1, b2, b3, b4, b5, b6⟩ := hbm
      have hbo : entL K cs a vs ns bm = none := off b3 (by rw [b6]; intro z; cases z) (by rw [b6]; intro l n z; cases z)
      refine ⟨bm, ob, b1, b2, fun q => ?_, fun q => ?_, hidT_get b3 hbo, b4, b5, b6⟩
      · obtain ⟨o, es, ep, e, d, _⟩ := hns
        rw [q, e] at b3
        rw [← Option.some.inj b3, d] at b6
        cases b6
      · rw [q, tp] at b3
        rw [← Option.some.inj b3] at b6
        cases b6
    · obtain ⟨o, es, ep, e, d, _⟩ := hns
      rw [z, tp] at e
      rw [← Option.some.inj e] at d
      cases d
  have ok : HOk P w (entL K cs a vs ns) s₁.heap := fun b u hu => by
    rcases ent_is hu with ⟨hb, rfl⟩ | ⟨rfl, _, rfl⟩
    · exact (tabO hb).1
    · exact ⟨ha, by rw [List.length_map]; exact hl, vs, _, rv, ha⟩
  have script : SqL K (entL K cs a vs ns) a (ns.map V.int) := by
    cases hk : K.lookup a with
    | none => exact .inl (.inr ⟨_, ent_own aT hk⟩)
    | some o =>
      have e := KX a o hk
      rw [ha] at e
      obtain rfl := Option.some.inj e
      exact .inr ⟨_, vs.toArray, _, hk, rfl, rfl, rfl, by rw [List.size_toArray, hi.length]; exact hl, by simpa using rv⟩
  have e0 : Env0 P w K mg (hidT s₁.heap (entL K cs a vs ns)) callerA [] s₁ (entL K cs a vs ns) := ⟨rfl, hM, fun b o e => of_hidT e, Nat.le_of_eq (hidT_size _ _), trivial, fun b hq => absurd (show b ∈ ([] : List Addr) from hq) (by simp), ok, .of_eq hg⟩
  refine codeAny_mono ((F _ KB (nsB hns) TB).run callerA [] s₁ _ ⟨[.ref a], []⟩ [.ref a] [.ref a] _ _ hr rfl e0 (hbind s₁ (.ref a)) (.cons rfl .nil) (hsp _ (fun p hp => ent_tab (inT hp)) script)) fun r s' h => ?_
  rcases r with e | (_ | _ | _ | u)
  · exact False.elim h
  · exact False.elim h
  · exact False.elim h
  · exact False.elim h
  obtain ⟨v, H', os, bare, un, ok', r', q⟩ := h
  obtain rfl : v = .bl true := q
  obtain rfl : u = Value.bool true := r'
  -- what stood before stands, but that tables may have grown
  have tabs' : ∀ {b}, b ∈ cs.map (·.2) → ∃ more : Array Value, s'.heap.get? b = some { cls := .none, data := .fields more } := fun hq => by
    obtain ⟨more, z⟩ := un.tbls _ #[] (ent_tab hq)
    exact ⟨_, ok' _ _ z⟩
  have rest : ∀ {b o}, b ∉ cs.map (·.2) → s₁.heap.get? b = some o → s'.heap.get? b = some o := fun {b o} nb e => by
    cases q : entL K cs a vs ns b with
    | none => exact un.keep b o e q (fun z => absurd (show b ∈ ([] : List Addr) from z) (by simp)) (fun z => absurd (show b ∈ ([] : List Addr) from z) (by simp))
    | some u =>
      rcases ent_is q with ⟨z, _⟩ | ⟨rfl, _, rfl⟩
      · exact absurd z nb
      · rw [ha] at e
        rw [← Option.some.inj e]
        exact (ok' _ _ (un.frzs _ _ _ q)).1
  refine ⟨rfl, ⟨fun b o e => ?_, fun b o e => ?_⟩, os, bare⟩
  · by_cases nb : b ∈ cs.map (·.2)
    · obtain ⟨t1, _, c, t2⟩ := tabO nb
      obtain ⟨more, hm⟩ := tabs' nb
      rw [t1] at e
      obtain rfl := Option.some.inj e
      exact .inr (.inl ⟨(t2.tab t1).isCodeTable, rfl, #[], more, rfl, by rw [Array.empty_append]; exact hm⟩)
    · exact .inl (rest nb e)
  · by_cases nb : b ∈ cs.map (·.2)
    · obtain ⟨more, hm⟩ := tabs' nb
      exact ⟨_, hm⟩
    · exact ⟨o, rest nb e⟩
end
/-- what the head must say of the law -/
def LawG (l : PySem.W.OpenLaw) (w : World) (K : PySem.W.Frag) (k n : Nat) (x : Str) (mg : Str → Option Value) (fa : Addr) (h : Heap) : Prop :=
  ∃ (fd : FuncData) (cs : List (Addr × Addr)) (sp : Sp), (∀ p ∈ cs, h.get? p.2 = some { cls := .none, data := .fields #[] } ∧ K.lookup p.2 = none ∧ PySem.W.CodeHd h p.1 p.2) ∧ (∀ (s : Shared) (u : Value), BindsTo s fd ⟨[u], []⟩ [(x, u)]) ∧
    (∀ (H : Hp) (a : Addr) (ns : List Int), ns.length ≤ n → (∀ p ∈ cs, H p.2 = some (.tbl #[])) → SqL K H a (ns.map V.int) → sp [.ref a] H (fun v _ => v = .bl true) C8.E0) ∧
    ∀ base : Heap, K.In base → base.Ns mainGlobals mg → (∀ p ∈ cs, TabB base mg p.1 p.2) → FnG l.prog w K mg base k fa fd [x] sp
theorem walk_ofG {l : PySem.W.OpenLaw} {n k : Nat} {q : Program} {loose : List Str} {XP : (Str → Option Value) → Heap → Prop} {YP : World → Heap → Prop} {d : DefRec} {x : Str}
    (hn : l.most = some n) (hn2 : n ≤ sizeLine) (hdf : d.params.defaults = []) (hr : Room k callerA)
    (F : ∀ (w : World) (mg : Str → Option Value) (fa : Addr) (h : Heap), YP w h → h.Ns mainGlobals mg → mg d.name = some (.ref fa) → ∃ K : PySem.W.Frag, K.In h ∧ LawG l w K k n x mg fa h) :
    PySem.W.WalkO q loose XP YP l.row.toRowW d [] (fun f vs => PySem.call f vs) :=
  Att.attach_callB hn hdf fun w s₀ s₁ mg mb fa o pm cd doc a vs ns G Y ho hd hcd hmg hobj hints hlen hbits hg => by
    obtain ⟨K, KX, fd, cs, sp, hT, hb, hsp, hF⟩ := F w mg fa _ Y G.T.g hmg
    exact law_callG KX G.T.g G.T.b G.T.builtins G.T.nolimit hg (fun p hp => (hT p hp).1) (fun p hp => (hT p hp).2.1) (fun p hp => (hT p hp).2.2) G.T.bmain hobj hints (Nat.le_trans hlen hn2) hr hF hb fun H hH hS => hsp H a ns hlen hH hS
end T12
end
section
set_option Elab.async false
set_option linter.all false
set_option maxRecDepth 100000
set_option maxHeartbeats 4000000
set_option exponentiation.threshold 5000
namespace T12
open NdefX ClX StX LamX
open PySem PySem.Spec PyProof.Rows L2
/-! ### what the head is asked for -/
def refsQ (o : Obj) : List Addr := match o.data with
  | .dict es _ => es.toList.flatMap fun e => He.refV e.val
  | .func fd => He.refV fd.code ++ (He.refV fd.defaults ++ fd.closure.map (·.2))
  | .cls cd => cd.ns :: cd.mro.flatMap He.refV
  | .cell (some v) => He.refV v
  | _ => []
def growQ (g : Addr → Option Obj) (as : List Addr) : List Addr := (as ++ as.flatMap fun a => match g a with
  | some o => refsQ o
  | none => []).eraseDups
def asQ (g : Addr → Option Obj) : Nat → List Addr
  | 0 => [mainGlobals, cStatics]
  | n + 1 => growQ g (asQ g n)
/-! an __init__ that says super() -/
abbrev KsV : Type := Option (Str × Str × Arguments × FuncBody × Scope × Addr × List Str × Value × Addr)
abbrev iniAt (C : Str) : Str × Option Str := (C, some "__init__")
def ksW (K : PySem.W.Frag) (C : Str) : KsV := match K.lookup (He.fAd K (iniAt C)) with
  | some ⟨_, _, .func fd, _⟩ => some (fd.name, fd.qualname, fd.params, fd.body, fd.scope, fd.globals, fd.closure.map (·.1), fd.defaults, fd.builtins)
  | _ => none
def ccAt (K : PySem.W.Frag) (C : Str) : Addr := match K.lookup (He.fAd K (iniAt C)) with
  | some ⟨_, _, .func fd, _⟩ => (match fd.closure with
    | (_, c) :: _ => c
    | [] => 0)
  | _ => 0
structure KsD where
  cls : Str
  qual : Str
  st : Stmt
def KsD.val (d : KsD) : KsV := some ("__init__", d.qual, C8.fnArgs d.st, .stmts (C8.fnBody d.st), C8.fnScope d.st, mainGlobals, ["__class__"], .none, builtinsNs)
def cdB (fl : Str) (K : PySem.W.Frag) (c : Addr) : Bool := match K.lookup c with
  | some ⟨_, _, .fields vs, _⟩ => (match (vs[2]? : Option Value) with
    | some (Value.str file _) => fl == file
    | _ => false)
  | _ => false
def cellB (K : PySem.W.Frag) (cc D : Addr) : Bool := match K.lookup cc with
  | some ⟨_, _, .cell (some (.ref E)), _⟩ => decide (E = D)
  | _ => false
def fcB (K : PySem.W.Frag) (f : Addr) (q : Str) : Bool := match K.lookup f with
  | some ⟨_, _, .func fd, _⟩ => PySem.W.codeIn K fd.code q
  | _ => false
def KsD.ok (fl : Str) (K : PySem.W.Frag) (d : KsD) : Bool := fcB K (He.fAd K (iniAt d.cls)) d.qual && (cdB fl K (He.codeOf K (iniAt d.cls)) && (cellB K (ccAt K d.cls) (He.ga K d.cls) && (PySem.W.clsIn K (He.ga K d.cls)).isSome))
theorem ba {a b : Bool} (h : (a && b) = true) : a = true ∧ b = true := Bool.and_eq_true_iff.mp h
theorem cdB_ok {fl : Str} {K : PySem.W.Frag} {c : Addr} (h : cdB fl K c = true) : ∃ (ccl : Value) (cdd : Option Addr) (vs : Array Value) (ccs : Array (Option Value)) (file : Str) (tf : Tok), K.lookup c = some ⟨ccl, cdd, .fields vs, ccs⟩ ∧ vs[2]? = some (.str file tf) ∧ (fl == file) = true := by
  unfold cdB at h
  split at h
  · rename_i vs ccs q
    split at h
    · rename_i file tf z
      exact ⟨_, _, vs, ccs, file, tf, q, z, h⟩
    · cases h
  · cases h
theorem cellB_ok {K : PySem.W.Frag} {cc D : Addr} (h : cellB K cc D = true) : ∃ (cl : Value) (cld : Option Addr) (csl : Array (Option Value)), K.lookup cc = some ⟨cl, cld, .cell (some (.ref D)), csl⟩ := by
  unfold cellB at h
  split at h
  · rename_i E csl q
    have e := of_decide_eq_true h
    subst e
    exact ⟨_, _, _, q⟩
  · cases h
theorem KsD.sup {P : Program} {K : PySem.W.Frag} {mg : Str → Option Value} {d : KsD} (e : ksW K d.cls = d.val) (c : d.ok P.main.file K = true) (hs : mg "super" = none) (ht : (P.main.scope.names.lookup ("super" : Str)).isSome = false) :
    SupAt P K mg d.st d.qual (He.fAd K (iniAt d.cls)) (He.ga K d.cls) (He.codeOf K (iniAt d.cls)) (ccAt K d.cls) := by
  obtain ⟨c1, c⟩ := ba c
  obtain ⟨c2, c⟩ := ba c
  obtain ⟨c3, c4⟩ := ba c
  refine ⟨?_, cellB_ok c3, cdB_ok c2, Option.isSome_iff_exists.mp c4, hs, ht⟩
  unfold fcB at c1
  unfold ksW at e
  cases q : K.lookup (He.fAd K (iniAt d.cls)) with
  | none => rw [q] at c1; cases c1
  | some o =>
    obtain ⟨oc, od, dt, osl⟩ := o
    rw [q] at c1 e
    cases dt with
    | func fd =>
      obtain ⟨c, hc⟩ := He.codeIn_ref c1
      have e1 := He.codeOf_eq q hc
      have e2 : ccAt K d.cls = (match fd.closure with | (_, c) :: _ => c | [] => 0) := by unfold ccAt; rw [q]
      obtain ⟨n1, n2, n3, n4, n5, n6, n7, n8, n9, n10, n11, n12, n13, n14, n15⟩ := fd
      have e3 : (some (n1, n2, n3, n4, n5, n6, n7.map (·.1), n8, n15) : KsV) = (some ("__init__", d.qual, C8.fnArgs d.st, FuncBody.stmts (C8.fnBody d.st), C8.fnScope d.st, mainGlobals, ["__class__"], Value.none, builtinsNs) : KsV) := e
      simp only [Option.some.injEq, Prod.mk.injEq] at e3
      obtain ⟨h1, h2, h3, h4, h5, h6, h7, h8, h9⟩ := e3
      match n7, h7 with
      | [(y, cc)], h7 =>
        have hy : y = "__class__" := by simpa using h7
        subst hy
        have ecc : ccAt K d.cls = cc := e2
        have ecd : n13 = .ref c := hc
        rw [e1, ecc]
        subst h1 h2 h3 h4 h5 h6 h8 h9 ecd
        exact ⟨oc, od, n9, n10, n11, n14, n12, osl, rfl, c1⟩
    | _ => cases c1
/-! looks at classes -/
def insB (K : PySem.W.Frag) (C : Addr) : Bool := He.eqO (PySem.W.findIn K (.ref C) "__class__") (some (some (.builtin "object.__class__"))) && (He.eqO (PySem.W.specialIn K (.builtin "object.__class__") "__get__") (some (some (.builtin "getset_descriptor.__get__"))) &&
  (decide (PySem.W.takesIn K (.builtin "object.__class__") = some true) && (decide (PySem.W.mroIn K C (.type "object") = some true) && decide (PySem.W.kitOne K (.ref C) (.ref C) = some true))))
theorem insB_ok {K : PySem.W.Frag} {C : Addr} (cl : Cls K C) (h : insB K C = true) : C8.InsC K C := by
  obtain ⟨h1, h⟩ := ba h
  obtain ⟨h2, h⟩ := ba h
  obtain ⟨h3, h⟩ := ba h
  obtain ⟨h4, h5⟩ := ba h
  exact ⟨cl, He.eqO_ok h1, He.eqO_ok h2, of_decide_eq_true h3, of_decide_eq_true h4, of_decide_eq_true h5⟩
/-- a class object, whose new is n -/
def clB (K : PySem.W.Frag) (C : Addr) (t : List Value → Bool → String → Addr → Bool) : Bool := match K.lookup C with
  | some ⟨.type T, _, .cls cd, sl⟩ => (match cd.mro, sl.toList with
    | .ref C' :: bm, [_, _, _, _, some (.builtin n), _] => decide (T = "type") && (decide (C' = C) && (!cd.hasDel && t bm cd.hasDict n cd.ns))
    | _, _ => false)
  | _ => false
theorem clB_ok {K : PySem.W.Frag} {C : Addr} {t : List Value → Bool → String → Addr → Bool} (h : clB K C t = true) : ∃ nm q N bs bm hdct sn sub ab col dd k0 k1 k2 k3 k5 n, K.lookup C = some (excClassObj nm q C N bs bm hdct sn sub ab col dd k0 k1 k2 k3 k5 n) ∧ t bm hdct n N = true := by
  unfold clB at h
  split at h
  · rename_i T dd cd sl lk
    split at h
    · rename_i C' bm k0 k1 k2 k3 n k5 e1 e2
      obtain ⟨h1, h⟩ := ba h
      obtain ⟨h2, h⟩ := ba h
      obtain ⟨h3, h4⟩ := ba h
      obtain ⟨nm, bs, mro, N, q, hdct, sn, sub, ab, col, del⟩ := cd
      have e3 : mro = .ref C' :: bm := e1
      have e4 : del = false := by
        cases del with
        | false => rfl
        | true => cases h3
      have e5 : T = "type" := of_decide_eq_true h1
      have e6 : C' = C := of_decide_eq_true h2
      have e7 : sl = #[k0, k1, k2, k3, some (.builtin n), k5] := by
        rw [← Array.toList_inj]
        exact e2
      subst e3 e4 e5 e6 e7
      exact ⟨nm, q, N, bs, bm, hdct, sn, sub, ab, col, _, k0, k1, k2, k3, k5, n, lk, h4⟩
    · cases h
  · cases h
def oexB (K : PySem.W.Frag) (C : Addr) : Bool := clB K C (fun bm hd n _ => hd && (decide (n = "ValueError.__new__") && PySem.HandSPX.refsVE bm)) && (He.eqO (PySem.W.findIn K (.ref C) "__setattr__") (some (some (.builtin "object.__setattr__"))) &&
  (decide (PySem.W.subIn K (.ref C) (.type "BaseException") = some true) && (decide (PySem.W.typeIn K (.ref C) = some (.type "type")) && PySem.W.keepIn K (.ref C))))
theorem oexB_ok {K : PySem.W.Frag} {C : Addr} (h : oexB K C = true) : OexC K C := by
  obtain ⟨h1, h⟩ := ba h
  obtain ⟨h2, h⟩ := ba h
  obtain ⟨h3, h⟩ := ba h
  obtain ⟨h4, h5⟩ := ba h
  refine ⟨?_, He.eqO_ok h2, of_decide_eq_true h3, of_decide_eq_true h4, h5⟩
  obtain ⟨nm, q, N, bs, bm, hdct, sn, sub, ab, col, dd, k0, k1, k2, k3, k5, n, lk, t⟩ := clB_ok h1
  obtain ⟨t1, t⟩ := ba t
  obtain ⟨t2, t3⟩ := ba t
  have e := of_decide_eq_true t2
  subst e t1
  exact ⟨nm, q, N, bs, bm, sn, sub, ab, col, dd, k0, k1, k2, k3, k5, lk, t3⟩
def oeqB (K : PySem.W.Frag) (C f : Addr) : Bool := clB K C (fun bm _ _ N => decide (bm = [.type "object"]) && (PySem.W.nsOkIn K N && (He.eqO (PySem.W.nsIn K N "__eq__") (some (some (.ref f))) && He.eqO (PySem.W.nsIn K N "__ne__") (some none)))) && decide (PySem.W.typeIn K (.ref f) = some (.type "function"))
theorem oeqB_ok {K : PySem.W.Frag} {C f : Addr} (h : oeqB K C f = true) : OwnEq K C f := by
  obtain ⟨h1, h2⟩ := ba h
  refine ⟨?_, of_decide_eq_true h2⟩
  obtain ⟨nm, q, N, bs, bm, hdct, sn, sub, ab, col, dd, k0, k1, k2, k3, k5, n, lk, t⟩ := clB_ok h1
  obtain ⟨t1, t⟩ := ba t
  obtain ⟨t2, t⟩ := ba t
  obtain ⟨t3, t4⟩ := ba t
  have e := of_decide_eq_true t1
  subst e
  exact ⟨nm, q, N, bs, hdct, sn, sub, ab, col, dd, k0, k1, k2, k3, k5, n, lk, t2, He.eqO_ok t3, He.eqO_ok t4⟩
def kitF (K : PySem.W.Frag) (v : Value) (C : Addr) (b : Bool) : Bool := decide (PySem.W.kitOne K v (.ref C) = some b)
theorem kitF_ok {K : PySem.W.Frag} {v : Value} {C : Addr} {b : Bool} (h : kitF K v C b = true) : PySem.W.kitOne K v (.ref C) = some b := of_decide_eq_true h
def oddB (K : PySem.W.Frag) (C : Addr) : Bool := kitF K (.type "NoneType") C false && (kitF K (.type "int") C false && (kitF K (.type "str") C false && (kitF K (.type "bool") C false && (kitF K (.type "list") C false && kitF K (.type "dict") C false))))
theorem oddB_ok {K : PySem.W.Frag} {C : Addr} (h : oddB K C = true) : OddT K C := by
  obtain ⟨h1, h⟩ := ba h
  obtain ⟨h2, h⟩ := ba h
  obtain ⟨h3, h⟩ := ba h
  obtain ⟨h4, h⟩ := ba h
  obtain ⟨h5, h6⟩ := ba h
  exact ⟨kitF_ok h1, kitF_ok h2, kitF_ok h3, kitF_ok h4, kitF_ok h5, kitF_ok h6⟩
def eccB (K : PySem.W.Frag) (D : Addr) : Bool := He.eqO (PySem.W.findIn K (.ref D) "__getattribute__") (some (some (.builtin "BaseException.__getattribute__"))) && (He.eqO (PySem.W.findIn K (.ref D) "__getattr__") (some none) && (decide (PySem.W.subIn K (.ref D) (.type "BaseException") = some true) &&
  (PySem.W.hasDictIn K D && (He.eqO (PySem.W.findIn K (.ref D) "__class__") (some (some (.builtin "object.__class__"))) && (He.eqO (PySem.W.specialIn K (.builtin "object.__class__") "__get__") (some (some (.builtin "getset_descriptor.__get__"))) &&
  (decide (PySem.W.takesIn K (.builtin "object.__class__") = some true) && decide (PySem.W.mroIn K D (.type "object") = some true)))))))
theorem eccB_ok {K : PySem.W.Frag} {D : Addr} (h : eccB K D = true) : ExcC K D ∧ XfC K D := by
  obtain ⟨h1, h⟩ := ba h
  obtain ⟨h2, h⟩ := ba h
  obtain ⟨h3, h⟩ := ba h
  obtain ⟨h4, h⟩ := ba h
  obtain ⟨h5, h⟩ := ba h
  obtain ⟨h6, h⟩ := ba h
  obtain ⟨h7, h8⟩ := ba h
  exact ⟨⟨He.eqO_ok h1, He.eqO_ok h2, of_decide_eq_true h3, h4, He.eqO_ok h5, He.eqO_ok h6, of_decide_eq_true h7, of_decide_eq_true h8⟩, ⟨He.eqO_ok h1, He.eqO_ok h2, of_decide_eq_true h3, h4⟩⟩
/-- one of the three own exceptions -/
def exnB (K : PySem.W.Frag) (C f T : Addr) : Bool := oexB K C && (eccB K C && (decide (PySem.W.mroIn K C (.ref C) = some true) && (He.eqO (PySem.W.ks_superIn K C C "__init__") (some (some (.builtin "ValueError.__init__"))) && (decide (PySem.W.subIn K (.ref C) (.type "ValueError") = some true) &&
  (He.eqO (PySem.W.findIn K (.ref C) "part") (some none) && (He.eqO (PySem.W.findIn K (.ref C) "__init__") (some (some (.ref f))) && (decide (PySem.W.typeIn K (.ref f) = some (.type "function")) && decide (PySem.W.exmOne K (.ref C) (.ref T) = some true))))))))
structure ExnT (K : PySem.W.Frag) (C f T : Addr) : Prop where
  oex : OexC K C
  ecc : ExcC K C
  xfc : XfC K C
  sub : PySem.W.mroIn K C (.ref C) = some true
  find : PySem.W.ks_superIn K C C "__init__" = some (some (.builtin "ValueError.__init__"))
  vE : PySem.W.subIn K (.ref C) (.type "ValueError") = some true
  nP : PySem.W.findIn K (.ref C) "part" = some none
  ini : PySem.W.findIn K (.ref C) "__init__" = some (some (.ref f))
  ty : PySem.W.typeIn K (.ref f) = some (.type "function")
  exm : PySem.W.exmOne K (.ref C) (.ref T) = some true
theorem exnB_ok {K : PySem.W.Frag} {C f T : Addr} (h : exnB K C f T = true) : ExnT K C f T := by
  obtain ⟨h1, h⟩ := ba h
  obtain ⟨h2, h⟩ := ba h
  obtain ⟨h3, h⟩ := ba h
  obtain ⟨h4, h⟩ := ba h
  obtain ⟨h5, h⟩ := ba h
  obtain ⟨h6, h⟩ := ba h
  obtain ⟨h7, h⟩ := ba h
  obtain ⟨h8, h9⟩ := ba h
  exact ⟨oexB_ok h1, (eccB_ok h2).1, (eccB_ok h2).2, of_decide_eq_true h3, He.eqO_ok h4, of_decide_eq_true h5, He.eqO_ok h6, He.eqO_ok h7, of_decide_eq_true h8, of_decide_eq_true h9⟩
/-- a class of papers over Paper, whose truth stands at fB -/
def subB (K : PySem.W.Frag) (C fP fB : Addr) : Bool := decide (PySem.W.mroIn K C (.ref C) = some true) && (He.eqO (PySem.W.ks_superIn K C C "__init__") (some (some (.ref fP))) && (decide (PySem.W.typeIn K (.ref fP) = some (.type "function")) && (PySem.W.fnIn K fP &&
  (He.eqO (PySem.W.findIn K (.ref C) "__bool__") (some (some (.ref fB))) && PySem.W.isFn K (.ref fB)))))
theorem subB_ok {K : PySem.W.Frag} {C fP fB : Addr} (pap : PapT K C) (hany : PySem.W.nsIn K cStatics "thirdparty.any" = some none) (h : subB K C fP fB = true) : SubT K C fP ∧ BoolT K C fB := by
  obtain ⟨h1, h⟩ := ba h
  obtain ⟨h2, h⟩ := ba h
  obtain ⟨h3, h⟩ := ba h
  obtain ⟨h4, h⟩ := ba h
  obtain ⟨h5, h6⟩ := ba h
  exact ⟨⟨pap, of_decide_eq_true h1, He.eqO_ok h2, hany, of_decide_eq_true h3, h4⟩, ⟨He.eqO_ok h5, h6⟩⟩
/-! the Hook -/
abbrev Dfn : Type := Str × Option Str
/-- a def's code object, its table -/
def tabB (g : Addr → Option Obj) (K : PySem.W.Frag) (p : Dfn) (P : Addr) : Bool := PySem.W.codeHdIn K (He.codeOf K p) P && ((K.lookup P).isNone && (match g P with
  | some o => He.emptyTab o
  | none => false))
/-- the table that a code object tells, read off the heap -/
def tabAt (K : PySem.W.Frag) (p : Dfn) : Addr := He.tabOf K (He.codeOf K p)
structure Ask where
  fa : List He.Fa
  fn : List He.DefD
  ks : List KsD
  ot : List (PySem.W.Frag → Bool)
  tf : List Dfn
  fl : Str
abbrev AlQ : Type := Bool × (List He.FnW × List KsV)
def obsK (q : Ask) (g : Addr → Option Obj) (K : PySem.W.Frag) : AlQ :=
  ((q.fa.all fun f => f.ok K) && ((q.fn.all fun d => d.ok K) && ((q.ks.all fun d => d.ok q.fl K) && ((q.ot.all fun t => t K) && (q.tf.all fun p => tabB g K p (tabAt K p))))), (q.fn.map fun d => He.fnW K d.at_, q.ks.map fun d => ksW K d.cls))
def valK (q : Ask) : AlQ := (true, (q.fn.map He.DefD.val, q.ks.map KsD.val))
def obsQ (q : Ask) (n : Nat) (g : Addr → Option Obj) : AlQ := obsK q g (He.frG g (asQ g n))
structure SaysQ (q : Ask) (h : Heap) (K : PySem.W.Frag) : Prop where
  fa : ∀ f ∈ q.fa, f.ok K = true
  fn : ∀ d ∈ q.fn, d.ok K = true ∧ He.fnW K d.at_ = d.val
  ks : ∀ d ∈ q.ks, d.ok q.fl K = true ∧ ksW K d.cls = d.val
  ot : ∀ t ∈ q.ot, t K = true
  tf : ∀ p ∈ q.tf, PySem.W.codeHdIn K (He.codeOf K p) (tabAt K p) = true ∧ K.lookup (tabAt K p) = none ∧ h.get? (tabAt K p) = some { cls := .none, data := .fields #[] }
theorem map_eq_of {α β : Type} {f g : α → β} : ∀ {l : List α}, l.map f = l.map g → ∀ a ∈ l, f a = g a := fun e => List.map_inj_left.mp e
theorem saysQ_of {q : Ask} {h : Heap} {K : PySem.W.Frag} (e : obsK q h.get? K = valK q) : SaysQ q h K := by
  have e1 := congrArg (fun z : AlQ => z.1) e
  have e2 := congrArg (fun z : AlQ => z.2.1) e
  have e3 := congrArg (fun z : AlQ => z.2.2) e
  obtain ⟨h1, k⟩ := ba e1
  obtain ⟨h2, k⟩ := ba k
  obtain ⟨h3, k⟩ := ba k
  obtain ⟨h4, h5⟩ := ba k
  refine ⟨List.all_eq_true.mp h1, fun d hd => ⟨List.all_eq_true.mp h2 d hd, map_eq_of e2 d hd⟩, fun d hd => ⟨List.all_eq_true.mp h3 d hd, map_eq_of e3 d hd⟩, List.all_eq_true.mp h4, fun p hp => ?_⟩
  obtain ⟨t1, t⟩ := ba (List.all_eq_true.mp h5 p hp)
  obtain ⟨t2, t3⟩ := ba t
  refine ⟨t1, Option.isNone_iff_eq_none.mp t2, ?_⟩
  cases z : h.get? (tabAt K p) with
  | none => rw [z] at t3; cases t3
  | some o =>
    rw [z] at t3
    rw [He.emptyTab_eq t3]
def hookQ (q : Ask) (n : Nat) : PySem.W.Hook where
  α := AlQ
  obs := fun s => obsQ q n s.heap.get?
  val := fun _ => valK q
  says := fun _ h => ∃ K : PySem.W.Frag, K.In h ∧ SaysQ q h K
  of := fun _ _ e => ⟨_, He.frG_in, saysQ_of e⟩
  keeps := fun _ _ _ ⟨K, hK, c⟩ k => ⟨K, PySem.W.Frag.In.keeps hK k, ⟨c.fa, c.fn, c.ks, c.ot, fun p hp => ⟨(c.tf p hp).1, (c.tf p hp).2.1, k _ _ (c.tf p hp).2.2⟩⟩⟩
theorem obsQ_eq {q : Ask} {n : Nat} {g : Addr → Option Obj} {s : Shared} (h : ∀ a, g a = s.heap.get? a) : obsQ q n g = (hookQ q n).obs s := by
  have e : g = s.heap.get? := funext h
  rw [e]
  rfl
end T12
end
section
set_option Elab.async false
set_option linter.all false
set_option maxRecDepth 100000
set_option maxHeartbeats 4000000
set_option exponentiation.threshold 5000
namespace T12
open NdefX ClX StX LamX
open PySem PySem.Spec PyProof.Rows L2
/-! ### the facts, by name (printed by hd2.py) -/
def dfn (x : Str) (i : Nat) (dfl : List He.Dv := []) : He.DefD := ⟨(x, none), x, x, C8.fnArgs (topS i), C8.fnBody (topS i), C8.fnScope (topS i), dfl, []⟩
def mth (C m q : Str) (i j : Nat) : He.DefD := ⟨(C, some m), m, q, C8.fnArgs (clsS i j), C8.fnBody (clsS i j), C8.fnScope (clsS i j), [], []⟩
abbrev pShift : Dfn := ("_law_shift_right", none)
abbrev pRefused : Dfn := ("_law_refused_right", none)
def faL : List He.Fa := [.free "abs", .free "len", .free "int", .free "bool", .free "isinstance", .free "tuple", .free "list", .free "all", .free "any", .free "range", .free "zip", .free "enumerate", .free "set", .free "repr", .free "super", .int "LEAST_UNDER" 2, .int "SMALL_ABOVE" 1000000, .int "SMALL_UNDER" 1000, .int "MOST_WIDE" 2, .int "MOST_PIECES" 60, .int "FARTHEST" 1000, .int "MOST_WAY" 400, .glo "is_integer", .glo "halves", .glo "common", .glo "lowest_in", .glo "plus_in", .glo "times_in", .glo "minus_in", .glo "below_in", .glo "total", .glo "is_within", .glo "is_list", .glo "is_number", .glo "is_small", .glo "kept_number", .glo "is_row", .glo "is_corner", .glo "is_piece", .glo "kept_row", .glo "kept_piece", .glo "held_in", .glo "times_row", .glo "led_in", .glo "moved_piece", .glo "mirrored_piece", .glo "_law_pair", .glo "_law_form", .glo "_law_add", .glo "_law_mul", .glo "_law_less", .glo "_law_holds", .glo "_law_leads", .glo "_law_run", .glo "_law_there", .glo "_law_shifted", .glo "_law_turned", .glo "_law_stands", .glo "_law_moor", .glo "_law_pick", .glo "_law_number", .glo "_law_piece", .glo "_law_pieces", .glo "_law_point", .glo "_law_way", .glo "_law_wharf", .glo "are_unlike", .glo "points_on", .glo "fixed", .glo "run_in", .glo "judged_run", .glo "_law_goes_alike", .glo "made", .glo "moved", .glo "mirrored", .glo "_law_heard", .glo "_law_refused_right", .glo "_law_mirror_right", .glo "_law_shift_right", .glo "law", .glo "need_machine", .glo "need_point", .glo "need_way", .glo "Machine", .glo "TileError", .glo "BadMachine", .glo "BadNumber", .glo "Misfit", .glo "Goes", .glo "Stops", .cls "Machine", .mkr "Machine", .cls "Goes", .mkr "Goes", .cls "Stops", .mkr "Stops", .noat "Machine" "wide", .noat "Machine" "pieces", .noat "Goes" "word", .noat "Goes" "parts", .noat "Goes" "points", .noat "Stops" "word", .noat "Stops" "parts", .noat "Stops" "step", .noat "Stops" "point"]
def fnL : List He.DefD := [dfn "is_integer" 10, dfn "halves" 17, dfn "common" 18, dfn "lowest_in" 19, dfn "plus_in" 20, dfn "times_in" 21, dfn "minus_in" 22, dfn "below_in" 23, dfn "total" 24, dfn "is_within" 11, dfn "is_list" 12, dfn "is_number" 26, dfn "is_small" 27, dfn "kept_number" 28, dfn "is_row" 41, dfn "is_corner" 42, dfn "is_piece" 43, dfn "kept_row" 44, dfn "kept_piece" 45, dfn "held_in" 50, dfn "times_row" 51, dfn "led_in" 52, dfn "moved_piece" 55, dfn "mirrored_piece" 56, dfn "_law_pair" 76, dfn "_law_form" 77, dfn "_law_add" 78, dfn "_law_mul" 79, dfn "_law_less" 80, dfn "_law_holds" 84, dfn "_law_leads" 85, dfn "_law_run" 87, dfn "_law_there" 89, dfn "_law_shifted" 92, dfn "_law_turned" 93, dfn "_law_stands" 94, dfn "_law_moor" 74, dfn "_law_pick" 75, dfn "_law_number" 81, dfn "_law_piece" 82, dfn "_law_pieces" 83, dfn "_law_point" 86, dfn "_law_way" 88, dfn "_law_wharf" 73, dfn "are_unlike" 46, dfn "points_on" 69, dfn "fixed" 61, dfn "run_in" 70, dfn "judged_run" 71, dfn "_law_goes_alike" 90, dfn "made" 57, dfn "moved" 58, dfn "mirrored" 59, dfn "_law_heard" 91, dfn "_law_refused_right" 97, dfn "_law_mirror_right" 96, dfn "_law_shift_right" 95, dfn "law" 98, dfn "need_machine" 53 [.str "machine"], dfn "need_point" 29 [.str "point"], dfn "need_way" 68 [.str "way"], mth "Machine" "__init__" "Machine.__init__" 47 0, mth "Machine" "__eq__" "Machine.__eq__" 47 1, mth "Paper" "__init__" "Paper.__init__" 62 0, mth "Paper" "__bool__" "Paper.__bool__" 62 1, mth "Denial" "__bool__" "Denial.__bool__" 63 0]
def ksL : List KsD := [⟨"BadMachine", "BadMachine.__init__", clsS 5 0⟩, ⟨"BadNumber", "BadNumber.__init__", clsS 3 0⟩, ⟨"Misfit", "Misfit.__init__", clsS 7 0⟩, ⟨"Goes", "Goes.__init__", clsS 66 0⟩, ⟨"Stops", "Stops.__init__", clsS 67 0⟩]
def ot0 (K : PySem.W.Frag) : Bool := insB K (He.ga K "Machine")
def ot1 (K : PySem.W.Frag) : Bool := oeqB K (He.ga K "Machine") (He.fAd K ("Machine", some "__eq__"))
def ot2 (K : PySem.W.Frag) : Bool := oddB K (He.ga K "Machine")
def ot3 (K : PySem.W.Frag) : Bool := exnB K (He.ga K "BadMachine") (He.fAd K (iniAt "BadMachine")) (He.ga K "TileError")
def ot4 (K : PySem.W.Frag) : Bool := exnB K (He.ga K "BadNumber") (He.fAd K (iniAt "BadNumber")) (He.ga K "TileError")
def ot5 (K : PySem.W.Frag) : Bool := exnB K (He.ga K "Misfit") (He.fAd K (iniAt "Misfit")) (He.ga K "TileError")
def ot6 (K : PySem.W.Frag) : Bool := kitF K (.ref (He.ga K "BadMachine")) (He.ga K "BadMachine") true
def ot7 (K : PySem.W.Frag) : Bool := kitF K (.ref (He.ga K "BadNumber")) (He.ga K "BadMachine") false
def ot8 (K : PySem.W.Frag) : Bool := kitF K (.ref (He.ga K "Misfit")) (He.ga K "BadMachine") false
def ot9 (K : PySem.W.Frag) : Bool := kitF K (.ref (He.ga K "BadNumber")) (He.ga K "BadNumber") true
def ot10 (K : PySem.W.Frag) : Bool := kitF K (.ref (He.ga K "Misfit")) (He.ga K "BadNumber") false
def ot11 (K : PySem.W.Frag) : Bool := kitF K (.ref (He.ga K "Misfit")) (He.ga K "Misfit") true
def ot12 (K : PySem.W.Frag) : Bool := kitF K (.type "NoneType") (He.ga K "BadMachine") false
def ot13 (K : PySem.W.Frag) : Bool := kitF K (.type "NoneType") (He.ga K "BadNumber") false
def ot14 (K : PySem.W.Frag) : Bool := kitF K (.type "NoneType") (He.ga K "Misfit") false
def ot15 (K : PySem.W.Frag) : Bool := He.eqO (PySem.W.nsIn K cStatics "thirdparty.any") (some none)
def ot16 (K : PySem.W.Frag) : Bool := subB K (He.ga K "Goes") (He.fAd K (iniAt "Paper")) (He.fAd K ("Paper", some "__bool__"))
def ot17 (K : PySem.W.Frag) : Bool := subB K (He.ga K "Stops") (He.fAd K (iniAt "Paper")) (He.fAd K ("Denial", some "__bool__"))
def ot18 (K : PySem.W.Frag) : Bool := !decide (tabAt K pShift = tabAt K pRefused)
def otL : List (PySem.W.Frag → Bool) := [ot0, ot1, ot2, ot3, ot4, ot5, ot6, ot7, ot8, ot9, ot10, ot11, ot12, ot13, ot14, ot15, ot16, ot17, ot18]
abbrev flL : Str := PySem.Challenge.pw_timesfloor_k12_whole_machines_moved_and.main.file
def askL : Ask := ⟨faL, fnL, ksL, otL, [pShift, pRefused], flL⟩
theorem at_mem {α : Type} {l : List α} {a : α} (i : Nat) (h : l[i]? = some a) : a ∈ l := List.mem_of_getElem? h
theorem code_of {K : PySem.W.Frag} {mg : Str → Option Value} {x : Str} {st : Stmt} (hm : mg x = some (.ref (He.ga K x))) (f : Addr) (fd : FuncData) (F : C8.Def K mg x st f fd) : fd.code = .ref (He.codeOf K (x, none)) := by
  have e := F.mgf
  rw [hm] at e
  obtain rfl : He.ga K x = f := Value.ref.inj (Option.some.inj e)
  obtain ⟨oc, od, dV, kV, doc, pm, an, cdv, ct, osl, ef, lk, hcd⟩ := F.fn.ex
  obtain ⟨c, hc⟩ := He.codeIn_ref hcd
  have e1 : fd.code = .ref c := by rw [ef]; exact hc
  rw [e1, He.codeOf_eq (p := (x, none)) lk e1]
theorem fun_of {K : PySem.W.Frag} {x qual : Str} {st : Stmt} {dvs : List V} {kws : List (Str × V)} {f : Addr} {fd : FuncData} (F : FunD K x qual (C8.fnArgs st) (C8.fnBody st) (C8.fnScope st) dvs kws f fd) : C8.Fun K x qual st f fd := by
  obtain ⟨oc, od, dV, kV, doc, pm, an, cdv, ct, osl, e, lk, hcd, _, _⟩ := F.ex
  exact ⟨oc, od, dV, kV, doc, pm, an, cdv, ct, osl, e, lk, hcd⟩
section
variable {K : PySem.W.Frag} {mg : Str → Option Value} {h : Heap}
theorem SaysQ.glo (c : SaysQ askL h K) (X : K.In h) (G : h.Ns mainGlobals mg) {x : Str} (i : Nat) (e : faL[i]? = some (.glo x) := by rfl) : mg x = some (.ref (He.ga K x)) := He.glo_ok X G (c.fa _ (at_mem i e))
theorem SaysQ.free (c : SaysQ askL h K) (X : K.In h) (G : h.Ns mainGlobals mg) {x : Str} (i : Nat) (e : faL[i]? = some (.free x) := by rfl) : mg x = none := He.free_ok X G (c.fa _ (at_mem i e))
theorem SaysQ.int (c : SaysQ askL h K) (X : K.In h) (G : h.Ns mainGlobals mg) {x : Str} {n : Int} (i : Nat) (e : faL[i]? = some (.int x n) := by rfl) : ∃ t, mg x = some (.int n t) := He.int_ok X G (c.fa _ (at_mem i e))
theorem SaysQ.cl (c : SaysQ askL h K) {x : Str} (i : Nat) (e : faL[i]? = some (.cls x) := by rfl) : Cls K (He.ga K x) := He.cls_ok (c.fa _ (at_mem i e))
theorem SaysQ.no (c : SaysQ askL h K) {x f : Str} (i : Nat) (e : faL[i]? = some (.noat x f) := by rfl) : NoAttr K (He.ga K x) f := He.noat_ok (c.fa _ (at_mem i e))
theorem SaysQ.mkr (c : SaysQ askL h K) {x : Str} (i : Nat) (e : faL[i]? = some (.mkr x) := by rfl) : Mk K (He.ga K x) (He.fAd K (iniAt x)) := He.mkr_ok (c.fa _ (at_mem i e))
theorem SaysQ.def_ (c : SaysQ askL h K) {d : He.DefD} (i : Nat) (e : fnL[i]? = some d) : ∃ fd, FunD K d.name d.qual d.params d.body d.scope (d.dvs K) (d.kws K) (He.fAd K d.at_) fd :=
  He.DefD.funD (c.fn _ (at_mem i e)).2 (c.fn _ (at_mem i e)).1
theorem SaysQ.is (c : SaysQ askL h K) {t : PySem.W.Frag → Bool} (i : Nat) (e : otL[i]? = some t := by rfl) : t K = true := c.ot _ (at_mem i e)
theorem SaysQ.tp (c : SaysQ askL h K) (X : K.In h) (G : h.Ns mainGlobals mg) {x : Str} {i : Nat} {ps : List Str} (j k : Nat) (e : faL[j]? = some (.glo x)) (e2 : fnL[k]? = some (dfn x i))
    (hb : ∀ (kV doc pm : Value) (an : Option Addr) (cdv ct : Value) (us : List Value), us.length = ps.length → bindArgs (PySem.W.fnOf x x (C8.fnArgs (topS i)) (C8.fnBody (topS i)) (C8.fnScope (topS i)) .none kV doc pm an cdv ct) ⟨us, []⟩ = pure (ps.zip us)) : Tp K mg x (topS i) ps [] := by
  obtain ⟨fd, F⟩ := c.def_ k e2
  have F' : FunD K x x (C8.fnArgs (topS i)) (C8.fnBody (topS i)) (C8.fnScope (topS i)) [] [] (He.fAd K (x, none)) fd := F
  exact ⟨_, fd, ⟨fun_of F', c.glo X G j e, F'.kp⟩, F'.bindsN hb⟩
theorem SaysQ.tpD (c : SaysQ askL h K) (X : K.In h) (G : h.Ns mainGlobals mg) {x y : Str} {i n : Nat} {ps : List Str} (j k : Nat) (e : faL[j]? = some (.glo x)) (e2 : fnL[k]? = some (dfn x i [.str y])) (hn : n + 1 = ps.length)
    (hb : ∀ (T : Addr) (kV doc pm : Value) (an : Option Addr) (cdv ct : Value) (us its : List Value), us.length = n → its.length = 1 → ∃ k, bindArgs (PySem.W.fnOf x x (C8.fnArgs (topS i)) (C8.fnBody (topS i)) (C8.fnScope (topS i)) (.ref T) kV doc pm an cdv ct) ⟨us, []⟩ = seqItems? (.ref T) >>= k ∧ k (some its.toArray) = pure (ps.zip (us ++ its.drop 0))) :
    ∃ tk, Tp K mg x (topS i) ps [.str y tk] := by
  obtain ⟨fd, F⟩ := c.def_ k e2
  have F' : FunD K x x (C8.fnArgs (topS i)) (C8.fnBody (topS i)) (C8.fnScope (topS i)) [.str y] [] (He.fAd K (x, none)) fd := F
  obtain ⟨ds, r, b⟩ := F'.binds1 (ps := ps) n 0 (List.cons_ne_nil _ _) hn hb
  cases r with
  | cons r1 r2 =>
    cases r2
    obtain ⟨tk, rfl⟩ := r1
    exact ⟨tk, _, fd, ⟨fun_of F', c.glo X G j e, F'.kp⟩, b⟩
theorem vals_rev {vs : List V} {us : List Value} (r : Vals vs us) : Vals vs.reverse us.reverse := by
  induction r with
  | nil => exact .nil
  | cons r1 _ ih =>
    rw [List.reverse_cons, List.reverse_cons]
    exact ih.append (.cons r1 .nil)
end
section
variable {K : PySem.W.Frag} {mg : Str → Option Value} {h : Heap}
theorem tp_is_integer (c : SaysQ askL h K) (X : K.In h) (G : h.Ns mainGlobals mg) : Tp K mg "is_integer" (topS 10) ["value"] [] := c.tp X G 22 0 rfl rfl fun _ _ _ _ _ _ us hl => match us, hl with | [_], _ => rfl
theorem tp_halves (c : SaysQ askL h K) (X : K.In h) (G : h.Ns mainGlobals mg) : Tp K mg "halves" (topS 17) ["number"] [] := c.tp X G 23 1 rfl rfl fun _ _ _ _ _ _ us hl => match us, hl with | [_], _ => rfl
theorem tp_common (c : SaysQ askL h K) (X : K.In h) (G : h.Ns mainGlobals mg) : Tp K mg "common" (topS 18) ["one", "other"] [] := c.tp X G 24 2 rfl rfl fun _ _ _ _ _ _ us hl => match us, hl with | [_, _], _ => rfl
theorem tp_lowest_in (c : SaysQ askL h K) (X : K.In h) (G : h.Ns mainGlobals mg) : Tp K mg "lowest_in" (topS 19) ["above", "under"] [] := c.tp X G 25 3 rfl rfl fun _ _ _ _ _ _ us hl => match us, hl with | [_, _], _ => rfl
theorem tp_plus_in (c : SaysQ askL h K) (X : K.In h) (G : h.Ns mainGlobals mg) : Tp K mg "plus_in" (topS 20) ["one", "other"] [] := c.tp X G 26 4 rfl rfl fun _ _ _ _ _ _ us hl => match us, hl with | [_, _], _ => rfl
theorem tp_times_in (c : SaysQ askL h K) (X : K.In h) (G : h.Ns mainGlobals mg) : Tp K mg "times_in" (topS 21) ["one", "other"] [] := c.tp X G 27 5 rfl rfl fun _ _ _ _ _ _ us hl => match us, hl with | [_, _], _ => rfl
theorem tp_minus_in (c : SaysQ askL h K) (X : K.In h) (G : h.Ns mainGlobals mg) : Tp K mg "minus_in" (topS 22) ["one", "other"] [] := c.tp X G 28 6 rfl rfl fun _ _ _ _ _ _ us hl => match us, hl with | [_, _], _ => rfl
theorem tp_below_in (c : SaysQ askL h K) (X : K.In h) (G : h.Ns mainGlobals mg) : Tp K mg "below_in" (topS 23) ["one", "other"] [] := c.tp X G 29 7 rfl rfl fun _ _ _ _ _ _ us hl => match us, hl with | [_, _], _ => rfl
theorem tp_total (c : SaysQ askL h K) (X : K.In h) (G : h.Ns mainGlobals mg) : Tp K mg "total" (topS 24) ["numbers"] [] := c.tp X G 30 8 rfl rfl fun _ _ _ _ _ _ us hl => match us, hl with | [_], _ => rfl
theorem tp_is_within (c : SaysQ askL h K) (X : K.In h) (G : h.Ns mainGlobals mg) : Tp K mg "is_within" (topS 11) ["value", "least", "most"] [] := c.tp X G 31 9 rfl rfl fun _ _ _ _ _ _ us hl => match us, hl with | [_, _, _], _ => rfl
theorem tp_is_list (c : SaysQ askL h K) (X : K.In h) (G : h.Ns mainGlobals mg) : Tp K mg "is_list" (topS 12) ["value"] [] := c.tp X G 32 10 rfl rfl fun _ _ _ _ _ _ us hl => match us, hl with | [_], _ => rfl
theorem tp_is_number (c : SaysQ askL h K) (X : K.In h) (G : h.Ns mainGlobals mg) : Tp K mg "is_number" (topS 26) ["value"] [] := c.tp X G 33 11 rfl rfl fun _ _ _ _ _ _ us hl => match us, hl with | [_], _ => rfl
theorem tp_is_small (c : SaysQ askL h K) (X : K.In h) (G : h.Ns mainGlobals mg) : Tp K mg "is_small" (topS 27) ["value"] [] := c.tp X G 34 12 rfl rfl fun _ _ _ _ _ _ us hl => match us, hl with | [_], _ => rfl
theorem tp_kept_number (c : SaysQ askL h K) (X : K.In h) (G : h.Ns mainGlobals mg) : Tp K mg "kept_number" (topS 28) ["value"] [] := c.tp X G 35 13 rfl rfl fun _ _ _ _ _ _ us hl => match us, hl with | [_], _ => rfl
theorem tp_is_row (c : SaysQ askL h K) (X : K.In h) (G : h.Ns mainGlobals mg) : Tp K mg "is_row" (topS 41) ["value", "wide"] [] := c.tp X G 36 14 rfl rfl fun _ _ _ _ _ _ us hl => match us, hl with | [_, _], _ => rfl
theorem tp_is_corner (c : SaysQ askL h K) (X : K.In h) (G : h.Ns mainGlobals mg) : Tp K mg "is_corner" (topS 42) ["value", "wide"] [] := c.tp X G 37 15 rfl rfl fun _ _ _ _ _ _ us hl => match us, hl with | [_, _], _ => rfl
theorem tp_is_piece (c : SaysQ askL h K) (X : K.In h) (G : h.Ns mainGlobals mg) : Tp K mg "is_piece" (topS 43) ["value", "wide"] [] := c.tp X G 38 16 rfl rfl fun _ _ _ _ _ _ us hl => match us, hl with | [_, _], _ => rfl
theorem tp_kept_row (c : SaysQ askL h K) (X : K.In h) (G : h.Ns mainGlobals mg) : Tp K mg "kept_row" (topS 44) ["row"] [] := c.tp X G 39 17 rfl rfl fun _ _ _ _ _ _ us hl => match us, hl with | [_], _ => rfl
theorem tp_kept_piece (c : SaysQ askL h K) (X : K.In h) (G : h.Ns mainGlobals mg) : Tp K mg "kept_piece" (topS 45) ["piece"] [] := c.tp X G 40 18 rfl rfl fun _ _ _ _ _ _ us hl => match us, hl with | [_], _ => rfl
theorem tp_held_in (c : SaysQ askL h K) (X : K.In h) (G : h.Ns mainGlobals mg) : Tp K mg "held_in" (topS 50) ["piece", "point"] [] := c.tp X G 41 19 rfl rfl fun _ _ _ _ _ _ us hl => match us, hl with | [_, _], _ => rfl
theorem tp_times_row (c : SaysQ askL h K) (X : K.In h) (G : h.Ns mainGlobals mg) : Tp K mg "times_row" (topS 51) ["row", "point"] [] := c.tp X G 42 20 rfl rfl fun _ _ _ _ _ _ us hl => match us, hl with | [_, _], _ => rfl
theorem tp_led_in (c : SaysQ askL h K) (X : K.In h) (G : h.Ns mainGlobals mg) : Tp K mg "led_in" (topS 52) ["piece", "point"] [] := c.tp X G 43 21 rfl rfl fun _ _ _ _ _ _ us hl => match us, hl with | [_, _], _ => rfl
theorem tp_moved_piece (c : SaysQ askL h K) (X : K.In h) (G : h.Ns mainGlobals mg) : Tp K mg "moved_piece" (topS 55) ["piece", "shift"] [] := c.tp X G 44 22 rfl rfl fun _ _ _ _ _ _ us hl => match us, hl with | [_, _], _ => rfl
theorem tp_mirrored_piece (c : SaysQ askL h K) (X : K.In h) (G : h.Ns mainGlobals mg) : Tp K mg "mirrored_piece" (topS 56) ["piece"] [] := c.tp X G 45 23 rfl rfl fun _ _ _ _ _ _ us hl => match us, hl with | [_], _ => rfl
theorem tp__law_pair (c : SaysQ askL h K) (X : K.In h) (G : h.Ns mainGlobals mg) : Tp K mg "_law_pair" (topS 76) ["_law_number_here"] [] := c.tp X G 46 24 rfl rfl fun _ _ _ _ _ _ us hl => match us, hl with | [_], _ => rfl
theorem tp__law_form (c : SaysQ askL h K) (X : K.In h) (G : h.Ns mainGlobals mg) : Tp K mg "_law_form" (topS 77) ["_law_above", "_law_under"] [] := c.tp X G 47 25 rfl rfl fun _ _ _ _ _ _ us hl => match us, hl with | [_, _], _ => rfl
theorem tp__law_add (c : SaysQ askL h K) (X : K.In h) (G : h.Ns mainGlobals mg) : Tp K mg "_law_add" (topS 78) ["_law_one", "_law_other"] [] := c.tp X G 48 26 rfl rfl fun _ _ _ _ _ _ us hl => match us, hl with | [_, _], _ => rfl
theorem tp__law_mul (c : SaysQ askL h K) (X : K.In h) (G : h.Ns mainGlobals mg) : Tp K mg "_law_mul" (topS 79) ["_law_one", "_law_other"] [] := c.tp X G 49 27 rfl rfl fun _ _ _ _ _ _ us hl => match us, hl with | [_, _], _ => rfl
theorem tp__law_less (c : SaysQ askL h K) (X : K.In h) (G : h.Ns mainGlobals mg) : Tp K mg "_law_less" (topS 80) ["_law_one", "_law_other"] [] := c.tp X G 50 28 rfl rfl fun _ _ _ _ _ _ us hl => match us, hl with | [_, _], _ => rfl
theorem tp__law_holds (c : SaysQ askL h K) (X : K.In h) (G : h.Ns mainGlobals mg) : Tp K mg "_law_holds" (topS 84) ["_law_piece_here", "_law_point_here"] [] := c.tp X G 51 29 rfl rfl fun _ _ _ _ _ _ us hl => match us, hl with | [_, _], _ => rfl
theorem tp__law_leads (c : SaysQ askL h K) (X : K.In h) (G : h.Ns mainGlobals mg) : Tp K mg "_law_leads" (topS 85) ["_law_piece_here", "_law_point_here"] [] := c.tp X G 52 30 rfl rfl fun _ _ _ _ _ _ us hl => match us, hl with | [_, _], _ => rfl
theorem tp__law_run (c : SaysQ askL h K) (X : K.In h) (G : h.Ns mainGlobals mg) : Tp K mg "_law_run" (topS 87) ["_law_pieces_here", "_law_point_here", "_law_way_here"] [] := c.tp X G 53 31 rfl rfl fun _ _ _ _ _ _ us hl => match us, hl with | [_, _, _], _ => rfl
theorem tp__law_there (c : SaysQ askL h K) (X : K.In h) (G : h.Ns mainGlobals mg) : Tp K mg "_law_there" (topS 89) ["_law_point_here", "_law_shift"] [] := c.tp X G 54 32 rfl rfl fun _ _ _ _ _ _ us hl => match us, hl with | [_, _], _ => rfl
theorem tp__law_shifted (c : SaysQ askL h K) (X : K.In h) (G : h.Ns mainGlobals mg) : Tp K mg "_law_shifted" (topS 92) ["_law_piece_here", "_law_shift"] [] := c.tp X G 55 33 rfl rfl fun _ _ _ _ _ _ us hl => match us, hl with | [_, _], _ => rfl
theorem tp__law_turned (c : SaysQ askL h K) (X : K.In h) (G : h.Ns mainGlobals mg) : Tp K mg "_law_turned" (topS 93) ["_law_piece_here"] [] := c.tp X G 56 34 rfl rfl fun _ _ _ _ _ _ us hl => match us, hl with | [_], _ => rfl
theorem tp__law_stands (c : SaysQ askL h K) (X : K.In h) (G : h.Ns mainGlobals mg) : Tp K mg "_law_stands" (topS 94) ["_law_pieces_here"] [] := c.tp X G 57 35 rfl rfl fun _ _ _ _ _ _ us hl => match us, hl with | [_], _ => rfl
theorem tp__law_moor (c : SaysQ askL h K) (X : K.In h) (G : h.Ns mainGlobals mg) : Tp K mg "_law_moor" (topS 74) ["_law_wharf_here", "_law_many"] [] := c.tp X G 58 36 rfl rfl fun _ _ _ _ _ _ us hl => match us, hl with | [_, _], _ => rfl
theorem tp__law_pick (c : SaysQ askL h K) (X : K.In h) (G : h.Ns mainGlobals mg) : Tp K mg "_law_pick" (topS 75) ["_law_wharf_here", "_law_some"] [] := c.tp X G 59 37 rfl rfl fun _ _ _ _ _ _ us hl => match us, hl with | [_, _], _ => rfl
theorem tp__law_number (c : SaysQ askL h K) (X : K.In h) (G : h.Ns mainGlobals mg) : Tp K mg "_law_number" (topS 81) ["_law_wharf_here"] [] := c.tp X G 60 38 rfl rfl fun _ _ _ _ _ _ us hl => match us, hl with | [_], _ => rfl
theorem tp__law_piece (c : SaysQ askL h K) (X : K.In h) (G : h.Ns mainGlobals mg) : Tp K mg "_law_piece" (topS 82) ["_law_wharf_here", "_law_wide"] [] := c.tp X G 61 39 rfl rfl fun _ _ _ _ _ _ us hl => match us, hl with | [_, _], _ => rfl
theorem tp__law_pieces (c : SaysQ askL h K) (X : K.In h) (G : h.Ns mainGlobals mg) : Tp K mg "_law_pieces" (topS 83) ["_law_wharf_here", "_law_wide", "_law_many"] [] := c.tp X G 62 40 rfl rfl fun _ _ _ _ _ _ us hl => match us, hl with | [_, _, _], _ => rfl
theorem tp__law_point (c : SaysQ askL h K) (X : K.In h) (G : h.Ns mainGlobals mg) : Tp K mg "_law_point" (topS 86) ["_law_wharf_here", "_law_pieces_here"] [] := c.tp X G 63 41 rfl rfl fun _ _ _ _ _ _ us hl => match us, hl with | [_, _], _ => rfl
theorem tp__law_way (c : SaysQ askL h K) (X : K.In h) (G : h.Ns mainGlobals mg) : Tp K mg "_law_way" (topS 88) ["_law_wharf_here", "_law_pieces_here", "_law_point_here", "_law_many"] [] := c.tp X G 64 42 rfl rfl fun _ _ _ _ _ _ us hl => match us, hl with | [_, _, _, _], _ => rfl
theorem tp__law_wharf (c : SaysQ askL h K) (X : K.In h) (G : h.Ns mainGlobals mg) : Tp K mg "_law_wharf" (topS 73) ["_law_script"] [] := c.tp X G 65 43 rfl rfl fun _ _ _ _ _ _ us hl => match us, hl with | [_], _ => rfl
theorem tp_are_unlike (c : SaysQ askL h K) (X : K.In h) (G : h.Ns mainGlobals mg) : Tp K mg "are_unlike" (topS 46) ["pieces"] [] := c.tp X G 66 44 rfl rfl fun _ _ _ _ _ _ us hl => match us, hl with | [_], _ => rfl
theorem tp_points_on (c : SaysQ askL h K) (X : K.In h) (G : h.Ns mainGlobals mg) : Tp K mg "points_on" (topS 69) ["machine", "point", "way"] [] := c.tp X G 67 45 rfl rfl fun _ _ _ _ _ _ us hl => match us, hl with | [_, _, _], _ => rfl
theorem tp_fixed (c : SaysQ askL h K) (X : K.In h) (G : h.Ns mainGlobals mg) : Tp K mg "fixed" (topS 61) ["value"] [] := c.tp X G 68 46 rfl rfl fun _ _ _ _ _ _ us hl => match us, hl with | [_], _ => rfl
theorem tp_run_in (c : SaysQ askL h K) (X : K.In h) (G : h.Ns mainGlobals mg) : Tp K mg "run_in" (topS 70) ["machine", "point", "way"] [] := c.tp X G 69 47 rfl rfl fun _ _ _ _ _ _ us hl => match us, hl with | [_, _, _], _ => rfl
theorem tp_judged_run (c : SaysQ askL h K) (X : K.In h) (G : h.Ns mainGlobals mg) : Tp K mg "judged_run" (topS 71) ["machine", "point", "way"] [] := c.tp X G 70 48 rfl rfl fun _ _ _ _ _ _ us hl => match us, hl with | [_, _, _], _ => rfl
theorem tp__law_goes_alike (c : SaysQ askL h K) (X : K.In h) (G : h.Ns mainGlobals mg) : Tp K mg "_law_goes_alike" (topS 90) ["_law_wharf_here", "_law_pieces_here", "_law_other", "_law_shift", "_law_many"] [] := c.tp X G 71 49 rfl rfl fun _ _ _ _ _ _ us hl => match us, hl with | [_, _, _, _, _], _ => rfl
theorem tp_made (c : SaysQ askL h K) (X : K.In h) (G : h.Ns mainGlobals mg) : Tp K mg "made" (topS 57) ["machine", "pieces", "part"] [] := c.tp X G 72 50 rfl rfl fun _ _ _ _ _ _ us hl => match us, hl with | [_, _, _], _ => rfl
theorem tp_moved (c : SaysQ askL h K) (X : K.In h) (G : h.Ns mainGlobals mg) : Tp K mg "moved" (topS 58) ["machine", "shift"] [] := c.tp X G 73 51 rfl rfl fun _ _ _ _ _ _ us hl => match us, hl with | [_, _], _ => rfl
theorem tp_mirrored (c : SaysQ askL h K) (X : K.In h) (G : h.Ns mainGlobals mg) : Tp K mg "mirrored" (topS 59) ["machine"] [] := c.tp X G 74 52 rfl rfl fun _ _ _ _ _ _ us hl => match us, hl with | [_], _ => rfl
theorem tp__law_heard (c : SaysQ askL h K) (X : K.In h) (G : h.Ns mainGlobals mg) : Tp K mg "_law_heard" (topS 91) ["_law_ask"] [] := c.tp X G 75 53 rfl rfl fun _ _ _ _ _ _ us hl => match us, hl with | [_], _ => rfl
theorem tp__law_refused_right (c : SaysQ askL h K) (X : K.In h) (G : h.Ns mainGlobals mg) : Tp K mg "_law_refused_right" (topS 97) ["_law_wharf_here", "_law_machine", "_law_wide"] [] := c.tp X G 76 54 rfl rfl fun _ _ _ _ _ _ us hl => match us, hl with | [_, _, _], _ => rfl
theorem tp__law_mirror_right (c : SaysQ askL h K) (X : K.In h) (G : h.Ns mainGlobals mg) : Tp K mg "_law_mirror_right" (topS 96) ["_law_wharf_here", "_law_machine", "_law_pieces_here", "_law_wide"] [] := c.tp X G 77 55 rfl rfl fun _ _ _ _ _ _ us hl => match us, hl with | [_, _, _, _], _ => rfl
theorem tp__law_shift_right (c : SaysQ askL h K) (X : K.In h) (G : h.Ns mainGlobals mg) : Tp K mg "_law_shift_right" (topS 95) ["_law_wharf_here", "_law_machine", "_law_pieces_here", "_law_wide"] [] := c.tp X G 78 56 rfl rfl fun _ _ _ _ _ _ us hl => match us, hl with | [_, _, _, _], _ => rfl
theorem tp_law (c : SaysQ askL h K) (X : K.In h) (G : h.Ns mainGlobals mg) : Tp K mg "law" (topS 98) ["_law_script"] [] := c.tp X G 79 57 rfl rfl fun _ _ _ _ _ _ us hl => match us, hl with | [_], _ => rfl
theorem tp_need_machine (c : SaysQ askL h K) (X : K.In h) (G : h.Ns mainGlobals mg) : ∃ tk, Tp K mg "need_machine" (topS 53) ["value", "part"] [.str "machine" tk] := c.tpD X G (n := 1) 80 58 rfl rfl rfl fun _ _ _ _ _ _ _ us its hl hi => match us, its, hl, hi with | [_], [_], _, _ => ⟨_, rfl, rfl⟩
theorem tp_need_point (c : SaysQ askL h K) (X : K.In h) (G : h.Ns mainGlobals mg) : ∃ tk, Tp K mg "need_point" (topS 29) ["value", "wide", "part"] [.str "point" tk] := c.tpD X G (n := 2) 81 59 rfl rfl rfl fun _ _ _ _ _ _ _ us its hl hi => match us, its, hl, hi with | [_, _], [_], _, _ => ⟨_, rfl, rfl⟩
theorem tp_need_way (c : SaysQ askL h K) (X : K.In h) (G : h.Ns mainGlobals mg) : ∃ tk, Tp K mg "need_way" (topS 68) ["machine", "value", "part"] [.str "way" tk] := c.tpD X G (n := 2) 82 60 rfl rfl rfl fun _ _ _ _ _ _ _ us its hl hi => match us, its, hl, hi with | [_, _], [_], _, _ => ⟨_, rfl, rfl⟩
theorem fm_machine_init (c : SaysQ askL h K) : ∃ fd, C8.Fun K "__init__" "Machine.__init__" (clsS 47 0) (He.fAd K ("Machine", some "__init__")) fd ∧ Binds K fd ["self", "wide", "pieces"] [] := by
  obtain ⟨fd, F⟩ := c.def_ 61 (d := mth "Machine" "__init__" "Machine.__init__" 47 0) rfl
  have F' : FunD K "__init__" "Machine.__init__" (C8.fnArgs (clsS 47 0)) (C8.fnBody (clsS 47 0)) (C8.fnScope (clsS 47 0)) [] [] (He.fAd K ("Machine", some "__init__")) fd := F
  exact ⟨fd, fun_of F', F'.bindsN fun _ _ _ _ _ _ us hl => match us, hl with | [_, _, _], _ => rfl⟩
theorem fm_machine_eq (c : SaysQ askL h K) : ∃ fd, C8.Fun K "__eq__" "Machine.__eq__" (clsS 47 1) (He.fAd K ("Machine", some "__eq__")) fd ∧ Binds K fd ["self", "other"] [] := by
  obtain ⟨fd, F⟩ := c.def_ 62 (d := mth "Machine" "__eq__" "Machine.__eq__" 47 1) rfl
  have F' : FunD K "__eq__" "Machine.__eq__" (C8.fnArgs (clsS 47 1)) (C8.fnBody (clsS 47 1)) (C8.fnScope (clsS 47 1)) [] [] (He.fAd K ("Machine", some "__eq__")) fd := F
  exact ⟨fd, fun_of F', F'.bindsN fun _ _ _ _ _ _ us hl => match us, hl with | [_, _], _ => rfl⟩
theorem fm_paper_init (c : SaysQ askL h K) : ∃ fd, C8.Fun K "__init__" "Paper.__init__" (clsS 62 0) (He.fAd K ("Paper", some "__init__")) fd ∧ fd.defaults = .none := by
  obtain ⟨fd, F⟩ := c.def_ 63 (d := mth "Paper" "__init__" "Paper.__init__" 62 0) rfl
  have F' : FunD K "__init__" "Paper.__init__" (C8.fnArgs (clsS 62 0)) (C8.fnBody (clsS 62 0)) (C8.fnScope (clsS 62 0)) [] [] (He.fAd K ("Paper", some "__init__")) fd := F
  obtain ⟨oc, od, dV, kV, doc, pm, an, cdv, ct, osl, e, lk, hcd, hD, hK⟩ := F'.ex
  refine ⟨fd, fun_of F', ?_⟩
  rcases hD with ⟨_, z⟩ | ⟨z, _⟩
  · rw [e]; exact z
  · exact absurd rfl z
theorem fm_paper_bool (c : SaysQ askL h K) : ∃ fd, C8.Fun K "__bool__" "Paper.__bool__" (clsS 62 1) (He.fAd K ("Paper", some "__bool__")) fd ∧ Binds K fd ["self"] [] := by
  obtain ⟨fd, F⟩ := c.def_ 64 (d := mth "Paper" "__bool__" "Paper.__bool__" 62 1) rfl
  have F' : FunD K "__bool__" "Paper.__bool__" (C8.fnArgs (clsS 62 1)) (C8.fnBody (clsS 62 1)) (C8.fnScope (clsS 62 1)) [] [] (He.fAd K ("Paper", some "__bool__")) fd := F
  exact ⟨fd, fun_of F', F'.bindsN fun _ _ _ _ _ _ us hl => match us, hl with | [_], _ => rfl⟩
theorem fm_denial_bool (c : SaysQ askL h K) : ∃ fd, C8.Fun K "__bool__" "Denial.__bool__" (clsS 63 0) (He.fAd K ("Denial", some "__bool__")) fd ∧ Binds K fd ["self"] [] := by
  obtain ⟨fd, F⟩ := c.def_ 65 (d := mth "Denial" "__bool__" "Denial.__bool__" 63 0) rfl
  have F' : FunD K "__bool__" "Denial.__bool__" (C8.fnArgs (clsS 63 0)) (C8.fnBody (clsS 63 0)) (C8.fnScope (clsS 63 0)) [] [] (He.fAd K ("Denial", some "__bool__")) fd := F
  exact ⟨fd, fun_of F', F'.bindsN fun _ _ _ _ _ _ us hl => match us, hl with | [_], _ => rfl⟩
theorem bl_of (c : SaysQ askL h K) (X : K.In h) (G : h.Ns mainGlobals mg) : Bl mg := ⟨c.free X G 0, c.free X G 1, c.free X G 2, c.free X G 3, c.free X G 4, c.free X G 5, c.free X G 6, c.free X G 7, c.free X G 8, c.free X G 9, c.free X G 10, c.free X G 11, c.free X G 12, c.free X G 13, c.free X G 14⟩
theorem gc_of (c : SaysQ askL h K) (X : K.In h) (G : h.Ns mainGlobals mg) : Gc mg := ⟨c.int X G 15, c.int X G 16, c.int X G 17, c.int X G 18, c.int X G 19, c.int X G 20, c.int X G 21⟩
theorem mc_of (c : SaysQ askL h K) (X : K.In h) (G : h.Ns mainGlobals mg) : McT K mg (He.ga K "Machine") := ⟨c.cl 90, c.no 96, c.no 97, c.glo X G 83, insB_ok (c.cl 90) (c.is (t := ot0) 0)⟩
theorem any_of (c : SaysQ askL h K) : PySem.W.nsIn K cStatics "thirdparty.any" = some none := He.eqO_ok (c.is (t := ot15) 15)
theorem exn_BadMachine (c : SaysQ askL h K) : ExnT K (He.ga K "BadMachine") (He.fAd K (iniAt "BadMachine")) (He.ga K "TileError") := exnB_ok (c.is (t := ot3) 3)
theorem exn_BadNumber (c : SaysQ askL h K) : ExnT K (He.ga K "BadNumber") (He.fAd K (iniAt "BadNumber")) (He.ga K "TileError") := exnB_ok (c.is (t := ot4) 4)
theorem exn_Misfit (c : SaysQ askL h K) : ExnT K (He.ga K "Misfit") (He.fAd K (iniAt "Misfit")) (He.ga K "TileError") := exnB_ok (c.is (t := ot5) 5)
theorem sup_BadMachine {P : Program} (hP : P.main.file = flL) (hs : (P.main.scope.names.lookup ("super" : Str)).isSome = false) (c : SaysQ askL h K) (X : K.In h) (G : h.Ns mainGlobals mg) : SupAt P K mg (clsS 5 0) "BadMachine.__init__" (He.fAd K (iniAt "BadMachine")) (He.ga K "BadMachine") (He.codeOf K (iniAt "BadMachine")) (ccAt K "BadMachine") :=
  KsD.sup (d := ⟨"BadMachine", "BadMachine.__init__", clsS 5 0⟩) (c.ks _ (at_mem 0 rfl)).2 (by rw [hP]; exact (c.ks _ (at_mem 0 rfl)).1) (bl_of c X G).super hs
theorem sup_BadNumber {P : Program} (hP : P.main.file = flL) (hs : (P.main.scope.names.lookup ("super" : Str)).isSome = false) (c : SaysQ askL h K) (X : K.In h) (G : h.Ns mainGlobals mg) : SupAt P K mg (clsS 3 0) "BadNumber.__init__" (He.fAd K (iniAt "BadNumber")) (He.ga K "BadNumber") (He.codeOf K (iniAt "BadNumber")) (ccAt K "BadNumber") :=
  KsD.sup (d := ⟨"BadNumber", "BadNumber.__init__", clsS 3 0⟩) (c.ks _ (at_mem 1 rfl)).2 (by rw [hP]; exact (c.ks _ (at_mem 1 rfl)).1) (bl_of c X G).super hs
theorem sup_Misfit {P : Program} (hP : P.main.file = flL) (hs : (P.main.scope.names.lookup ("super" : Str)).isSome = false) (c : SaysQ askL h K) (X : K.In h) (G : h.Ns mainGlobals mg) : SupAt P K mg (clsS 7 0) "Misfit.__init__" (He.fAd K (iniAt "Misfit")) (He.ga K "Misfit") (He.codeOf K (iniAt "Misfit")) (ccAt K "Misfit") :=
  KsD.sup (d := ⟨"Misfit", "Misfit.__init__", clsS 7 0⟩) (c.ks _ (at_mem 2 rfl)).2 (by rw [hP]; exact (c.ks _ (at_mem 2 rfl)).1) (bl_of c X G).super hs
theorem sup_Goes {P : Program} (hP : P.main.file = flL) (hs : (P.main.scope.names.lookup ("super" : Str)).isSome = false) (c : SaysQ askL h K) (X : K.In h) (G : h.Ns mainGlobals mg) : SupAt P K mg (clsS 66 0) "Goes.__init__" (He.fAd K (iniAt "Goes")) (He.ga K "Goes") (He.codeOf K (iniAt "Goes")) (ccAt K "Goes") :=
  KsD.sup (d := ⟨"Goes", "Goes.__init__", clsS 66 0⟩) (c.ks _ (at_mem 3 rfl)).2 (by rw [hP]; exact (c.ks _ (at_mem 3 rfl)).1) (bl_of c X G).super hs
theorem sup_Stops {P : Program} (hP : P.main.file = flL) (hs : (P.main.scope.names.lookup ("super" : Str)).isSome = false) (c : SaysQ askL h K) (X : K.In h) (G : h.Ns mainGlobals mg) : SupAt P K mg (clsS 67 0) "Stops.__init__" (He.fAd K (iniAt "Stops")) (He.ga K "Stops") (He.codeOf K (iniAt "Stops")) (ccAt K "Stops") :=
  KsD.sup (d := ⟨"Stops", "Stops.__init__", clsS 67 0⟩) (c.ks _ (at_mem 4 rfl)).2 (by rw [hP]; exact (c.ks _ (at_mem 4 rfl)).1) (bl_of c X G).super hs
theorem ext_BadMachine {P : Program} (hP : P.main.file = flL) (hs : (P.main.scope.names.lookup ("super" : Str)).isSome = false) (c : SaysQ askL h K) (X : K.In h) (G : h.Ns mainGlobals mg) : ExT P K mg "BadMachine" sBadMacI "BadMachine.__init__" (He.fAd K (iniAt "BadMachine")) (He.ga K "BadMachine") (He.codeOf K (iniAt "BadMachine")) (ccAt K "BadMachine") :=
  let E := exn_BadMachine c
  ⟨sup_BadMachine hP hs c X G, E.oex, E.sub, any_of c, E.find, E.vE, E.nP, E.ini, E.ty, c.glo X G 85⟩
theorem ext_BadNumber {P : Program} (hP : P.main.file = flL) (hs : (P.main.scope.names.lookup ("super" : Str)).isSome = false) (c : SaysQ askL h K) (X : K.In h) (G : h.Ns mainGlobals mg) : ExT P K mg "BadNumber" sBadNumI "BadNumber.__init__" (He.fAd K (iniAt "BadNumber")) (He.ga K "BadNumber") (He.codeOf K (iniAt "BadNumber")) (ccAt K "BadNumber") :=
  let E := exn_BadNumber c
  ⟨sup_BadNumber hP hs c X G, E.oex, E.sub, any_of c, E.find, E.vE, E.nP, E.ini, E.ty, c.glo X G 86⟩
theorem ext_Misfit {P : Program} (hP : P.main.file = flL) (hs : (P.main.scope.names.lookup ("super" : Str)).isSome = false) (c : SaysQ askL h K) (X : K.In h) (G : h.Ns mainGlobals mg) : ExT P K mg "Misfit" sMisfitI "Misfit.__init__" (He.fAd K (iniAt "Misfit")) (He.ga K "Misfit") (He.codeOf K (iniAt "Misfit")) (ccAt K "Misfit") :=
  let E := exn_Misfit c
  ⟨sup_Misfit hP hs c X G, E.oex, E.sub, any_of c, E.find, E.vE, E.nP, E.ini, E.ty, c.glo X G 87⟩
theorem heard_of (c : SaysQ askL h K) (X : K.In h) (G : h.Ns mainGlobals mg) : HeardT K mg (He.ga K "TileError") (He.ga K "BadMachine") (He.ga K "BadNumber") (He.ga K "Misfit") :=
  let EM := exn_BadMachine c
  let EN := exn_BadNumber c
  let EF := exn_Misfit c
  ⟨c.glo X G 84, c.glo X G 85, c.glo X G 86, c.glo X G 87, EM.exm, EN.exm, EF.exm, kitF_ok (c.is (t := ot6) 6), kitF_ok (c.is (t := ot7) 7), kitF_ok (c.is (t := ot8) 8), kitF_ok (c.is (t := ot9) 9), kitF_ok (c.is (t := ot10) 10), kitF_ok (c.is (t := ot11) 11), kitF_ok (c.is (t := ot12) 12), kitF_ok (c.is (t := ot13) 13), kitF_ok (c.is (t := ot14) 14), EM.ecc, EN.ecc, EF.ecc, EM.xfc, EN.xfc, EF.xfc, EM.nP, EN.nP, EF.nP⟩
theorem pap_Goes (c : SaysQ askL h K) : PapT K (He.ga K "Goes") := ⟨c.cl 92, c.no 98, c.no 99⟩
theorem sub_Goes (c : SaysQ askL h K) : SubT K (He.ga K "Goes") (He.fAd K (iniAt "Paper")) ∧ BoolT K (He.ga K "Goes") (He.fAd K ("Paper", some "__bool__")) := subB_ok (pap_Goes c) (any_of c) (c.is (t := ot16) 16)
theorem pap_Stops (c : SaysQ askL h K) : PapT K (He.ga K "Stops") := ⟨c.cl 94, c.no 101, c.no 102⟩
theorem sub_Stops (c : SaysQ askL h K) : SubT K (He.ga K "Stops") (He.fAd K (iniAt "Paper")) ∧ BoolT K (He.ga K "Stops") (He.fAd K ("Denial", some "__bool__")) := subB_ok (pap_Stops c) (any_of c) (c.is (t := ot17) 17)
theorem ck_moved {P : Program} {w : World} {base : Heap} {sp : Sp} (c : SaysQ askL h K) (X : K.In h) (G : h.Ns mainGlobals mg) (F : ∀ f fd, C8.Def K mg "moved" sMoved f fd → FnOk P w K mg base CX0 10 f fd ["machine", "shift"] sp) : CalK P w K mg base 10 "moved" ["shift", "machine"] List.reverse sp := by
  obtain ⟨fd, D⟩ := c.def_ 51 (d := dfn "moved" 58) rfl
  have D' : FunD K "moved" "moved" (C8.fnArgs sMoved) (C8.fnBody sMoved) (C8.fnScope sMoved) [] [] (He.fAd K ("moved", none)) fd := D
  have E : C8.Def K mg "moved" sMoved (He.fAd K ("moved", none)) fd := ⟨fun_of D', c.glo X G 73, D'.kp⟩
  refine ⟨⟨_, fd, _, F _ fd E, E.mgf, E.kp, fun s ws _ hl => ?_⟩, vals_rev⟩
  obtain ⟨oc, od, dV, kV, doc, pm, an, cdv, ct, osl, rfl, lk, hcd, hD, hK⟩ := D'.ex
  rcases hD with ⟨_, rfl⟩ | ⟨e, _⟩
  · match ws, hl with
    | [_, _], _ => exact .of_eq rfl
  · exact absurd rfl e
theorem ck_mirrored {P : Program} {w : World} {base : Heap} {sp : Sp} (c : SaysQ askL h K) (X : K.In h) (G : h.Ns mainGlobals mg) (F : ∀ f fd, C8.Def K mg "mirrored" sMirrored f fd → FnOk P w K mg base CX0 10 f fd ["machine"] sp) : CalK P w K mg base 10 "mirrored" ["machine"] List.reverse sp := by
  obtain ⟨fd, D⟩ := c.def_ 52 (d := dfn "mirrored" 59) rfl
  have D' : FunD K "mirrored" "mirrored" (C8.fnArgs sMirrored) (C8.fnBody sMirrored) (C8.fnScope sMirrored) [] [] (He.fAd K ("mirrored", none)) fd := D
  have E : C8.Def K mg "mirrored" sMirrored (He.fAd K ("mirrored", none)) fd := ⟨fun_of D', c.glo X G 74, D'.kp⟩
  refine ⟨⟨_, fd, _, F _ fd E, E.mgf, E.kp, fun s ws _ hl => ?_⟩, vals_rev⟩
  obtain ⟨oc, od, dV, kV, doc, pm, an, cdv, ct, osl, rfl, lk, hcd, hD, hK⟩ := D'.ex
  rcases hD with ⟨_, rfl⟩ | ⟨e, _⟩
  · match ws, hl with
    | [_], _ => exact .of_eq rfl
  · exact absurd rfl e
end
end T12
end
section
set_option Elab.async false
set_option linter.all false
set_option maxRecDepth 100000
set_option maxHeartbeats 4000000
set_option exponentiation.threshold 5000
namespace T12
open NdefX ClX StX LamX
open PySem PySem.Spec PyProof.Rows L2
/-! ### the law's promise, of the head's facts  -/
/-- the defs that make lambdas: their code objects and tables -/
def csL (K : PySem.W.Frag) : List (Addr × Addr) := [(He.codeOf K pShift, tabAt K pShift), (He.codeOf K pRefused, tabAt K pRefused)]
def ttL (K : PySem.W.Frag) : List (Addr × Str) := [(tabAt K pShift, lamQ "_law_shift_right" sLawShiftRight), (tabAt K pRefused, lamQ "_law_refused_right" sLawRefusedRight)]
section
variable {P : Program} {w : World} {K : PySem.W.Frag} {mg : Str → Option Value} {h base : Heap}
theorem two_of (c : SaysQ askL h K) : tabAt K pShift ≠ tabAt K pRefused := by
  have e : (!decide (tabAt K pShift = tabAt K pRefused)) = true := c.is (t := ot18) 18
  intro z
  rw [decide_eq_true z] at e
  cases e
theorem fn_all (hP : P.main.file = flL) (hs : (P.main.scope.names.lookup ("super" : Str)).isSome = false) (c : SaysQ askL h K) (X : K.In h) (G : h.Ns mainGlobals mg) (TB : ∀ p ∈ csL K, TabB base mg p.1 p.2) :
    ∀ f fd, C8.Def K mg "law" sLaw f fd → FnG P w K mg base 14 f fd ["_law_script"] (spW K (ttL K) 1 (spLaw K)) := by
  have B := bl_of c X G
  have C := gc_of c X G
  have M := mc_of c X G
  have i_int := ok_is_integer (P := P) (w := w) (base := base) (tp_is_integer c X G) B
  have i_halves := ok_halves (P := P) (w := w) (base := base) (tp_halves c X G) B i_int
  have i_common := ok_common (P := P) (w := w) (base := base) (tp_common c X G) B
  have i_low := ok_lowest_in (P := P) (w := w) (base := base) (tp_lowest_in c X G) B i_common
  have i_plus := ok_plus_in (P := P) (w := w) (base := base) (tp_plus_in c X G) i_halves i_low
  have i_times := ok_times_in (P := P) (w := w) (base := base) (tp_times_in c X G) i_halves i_low
  have i_minus := ok_minus_in (P := P) (w := w) (base := base) (tp_minus_in c X G) i_plus i_times
  have i_below := ok_below_in (P := P) (w := w) (base := base) (tp_below_in c X G) i_halves
  have i_total := ok_total (P := P) (w := w) (base := base) (tp_total c X G) i_plus
  have i_within := ok_is_within (P := P) (w := w) (base := base) (tp_is_within c X G) i_int
  have i_list := ok_is_list (P := P) (w := w) (base := base) (tp_is_list c X G) B
  have i_number := ok_is_number (P := P) (w := w) (base := base) (tp_is_number c X G) B C i_int i_list i_within i_common
  have i_small := ok_is_small (P := P) (w := w) (base := base) (tp_is_small c X G) B C i_number i_halves
  have i_kept := ok_kept_number (P := P) (w := w) (base := base) (tp_kept_number c X G) B i_list
  obtain ⟨tk1, Tnp⟩ := tp_need_point c X G
  have i_np := ok_need_point (P := P) (w := w) (base := base) Tnp B i_list i_number i_kept
  have i_row := ok_is_row (P := P) (w := w) (base := base) (tp_is_row c X G) B i_list i_small
  have i_corner := ok_is_corner (P := P) (w := w) (base := base) (tp_is_corner c X G) B C i_list i_within
  have i_piece := ok_is_piece (P := P) (w := w) (base := base) (tp_is_piece c X G) B i_list i_row i_corner
  have i_krow := ok_kept_row (P := P) (w := w) (base := base) (tp_kept_row c X G) B i_kept
  have i_kpiece := ok_kept_piece (P := P) (w := w) (base := base) (tp_kept_piece c X G) B i_krow
  have i_held := ok_held_in (P := P) (w := w) (base := base) (tp_held_in c X G) B i_below
  have i_trow := ok_times_row (P := P) (w := w) (base := base) (tp_times_row c X G) B i_times i_total
  have i_led := ok_led_in (P := P) (w := w) (base := base) (tp_led_in c X G) B i_plus i_trow
  have i_mvp := ok_moved_piece (P := P) (w := w) (base := base) (tp_moved_piece c X G) B i_plus i_minus i_trow
  have i_mip := ok_mirrored_piece (P := P) (w := w) (base := base) (tp_mirrored_piece c X G) B i_times
  have l_pair := ok_law_pair (P := P) (w := w) (base := base) (tp__law_pair c X G) B
  have l_form := ok_law_form (P := P) (w := w) (base := base) (tp__law_form c X G) B
  have l_add := ok_law_add (P := P) (w := w) (base := base) (tp__law_add c X G) l_pair l_form
  have l_mul := ok_law_mul (P := P) (w := w) (base := base) (tp__law_mul c X G) l_pair l_form
  have l_less := ok_law_less (P := P) (w := w) (base := base) (tp__law_less c X G) l_pair
  have l_holds := ok_law_holds (P := P) (w := w) (base := base) (tp__law_holds c X G) B l_less
  have l_leads := ok_law_leads (P := P) (w := w) (base := base) (tp__law_leads c X G) B l_add l_mul
  have l_run := ok_law_run (P := P) (w := w) (base := base) (tp__law_run c X G) B l_holds l_leads
  have l_there := ok_law_there (P := P) (w := w) (base := base) (tp__law_there c X G) B l_add l_mul
  have l_shifted := ok_law_shifted (P := P) (w := w) (base := base) (tp__law_shifted c X G) B l_add l_mul l_leads
  have l_turned := ok_law_turned (P := P) (w := w) (base := base) (tp__law_turned c X G) B l_mul
  have l_stands := ok_law_stands (P := P) (w := w) (base := base) (tp__law_stands c X G) B l_pair
  have l_moor := ok_law_moor (P := P) (w := w) (base := base) (tp__law_moor c X G) B
  have l_pick := ok_law_pick (P := P) (w := w) (base := base) (tp__law_pick c X G) B l_moor
  have l_number := ok_law_number (P := P) (w := w) (base := base) (tp__law_number c X G) B l_moor l_form l_pick
  have l_piece := ok_law_piece (P := P) (w := w) (base := base) (tp__law_piece c X G) B l_moor l_number
  have l_pieces := ok_law_pieces (P := P) (w := w) (base := base) (tp__law_pieces c X G) B l_piece
  have l_point := ok_law_point (P := P) (w := w) (base := base) (tp__law_point c X G) B l_moor l_form l_pick l_add
  have l_way := ok_law_way (P := P) (w := w) (base := base) (tp__law_way c X G) B l_moor l_pick l_holds l_leads
  have l_wharf := ok_law_wharf (P := P) (w := w) (base := base) (tp__law_wharf c X G) B
  have i_unlike := ok_are_unlike (P := P) (w := w) (base := base) (tp_are_unlike c X G) B
  obtain ⟨fdI, FI, bI⟩ := fm_machine_init c
  obtain ⟨fdE, FE, bE⟩ := fm_machine_eq c
  obtain ⟨fdP, FP, dP⟩ := fm_paper_init c
  obtain ⟨fdB, FB, bB⟩ := fm_paper_bool c
  obtain ⟨fdD, FD, bD⟩ := fm_denial_bool c
  have k_mk := mak_machine (P := P) (w := w) (base := base) (c.mkr 91) FI bI M B C i_within i_list i_piece i_kpiece i_unlike
  have EQ : EqT P w K mg base (He.ga K "Machine") := ⟨_, fdE, oeqB_ok (c.is (t := ot1) 1), ok_mc_eq FE M B, bE⟩
  obtain ⟨tk2, Tnm⟩ := tp_need_machine c X G
  obtain ⟨tk3, Tnw⟩ := tp_need_way c X G
  have i_nm := ok_need_machine (P := P) (w := w) (base := base) Tnm M B
  have i_nw := ok_need_way (P := P) (w := w) (base := base) Tnw M B C i_list i_within
  have i_on := ok_points_on (P := P) (w := w) (base := base) (tp_points_on c X G) M B i_held i_led
  have i_fixed := ok_fixed (P := P) (w := w) (base := base) (tp_fixed c X G) B 4
  have i_paper := fnr_paper (P := P) (w := w) (mg := mg) (base := base) FP dP (fun kV doc pm an cdv ct us rest hl => bind_star2 (p1 := "self") (p2 := "word") (pv := "parts") (B := fun l => bindArgs (PySem.W.fnOf "__init__" "Paper.__init__" (C8.fnArgs sPaperInit) (C8.fnBody sPaperInit) (C8.fnScope sPaperInit) .none kV doc pm an cdv ct) ⟨l, []⟩) (fun _ _ => rfl) (fun _ _ _ _ => rfl) us rest hl) i_fixed
  have k_goes : MakR P w K mg base 7 "Goes" (He.ga K "Goes") (spGoesI K (He.ga K "Goes")) := ⟨_, c.mkr 93, fnr_goes (sup_Goes hP hs c X G) (sub_Goes c).1 (c.no 100) (fun _ _ _ _ _ us hl => match us, hl with | [_, _], _ => rfl) i_paper, c.glo X G 88⟩
  have k_stops : MakR P w K mg base 7 "Stops" (He.ga K "Stops") (spStopsI K (He.ga K "Stops")) := ⟨_, c.mkr 95, fnr_stops (sup_Stops hP hs c X G) (sub_Stops c).1 (c.no 103) (c.no 104) (fun _ _ _ _ _ us hl => match us, hl with | [_, _, _], _ => rfl) i_paper, c.glo X G 89⟩
  have i_run := ok_run_in (P := P) (w := w) (base := base) (tp_run_in c X G) B i_on k_goes k_stops
  have i_judged := ok_judged_run (P := P) (w := w) (base := base) (tp_judged_run c X G) M B i_nm i_np i_nw i_run
  have l_alike := ok_law_goes_alike (P := P) (w := w) (base := base) (tp__law_goes_alike c X G) B B.repr (pap_Goes c) (pap_Stops c) (c.no 100) (truth_pap (sub_Goes c).2 FB bB) (truth_den (sub_Stops c).2 FD bD) l_moor l_point l_way l_there l_run i_judged
  have x_badMac := ext_BadMachine (P := P) hP hs c X G
  have f_badMac := fnr_badMac (w := w) (base := base) x_badMac (fun _ _ _ _ _ us hl => match us, hl with | [_, _], _ => rfl)
  have x_badNum := ext_BadNumber (P := P) hP hs c X G
  have f_badNum := fnr_badNum (w := w) (base := base) x_badNum (fun _ _ _ _ _ us hl => match us, hl with | [_, _], _ => rfl)
  have x_misfit := ext_Misfit (P := P) hP hs c X G
  have f_misfit := fnr_misfit (w := w) (base := base) x_misfit (fun _ _ _ _ _ us hl => match us, hl with | [_, _], _ => rfl)
  have r_nm := ok_need_machineX (P := P) (w := w) (base := base) Tnm M B x_badMac f_badMac
  have i_made := ok_made (P := P) (w := w) (base := base) (tp_made c X G) M B i_piece k_mk
  have r_made := ok_madeX (P := P) (w := w) (base := base) (tp_made c X G) M B x_misfit f_misfit i_piece
  have g_moved := fn_moved (P := P) (w := w) (base := base) M B i_nm i_list i_int i_mvp i_made
  have g_mirrored := fn_mirrored (P := P) (w := w) (base := base) M B i_nm i_mip i_made
  have i_moved := cal_ofF (tp_moved c X G) g_moved
  have i_mirrored := cal_ofF (tp_mirrored c X G) g_mirrored
  have r_moved := ok_movedX (P := P) (w := w) (base := base) (fM := 0) (fF := 0) (cdM := 0) (ccM := 0) (cdF := 0) (ccF := 0) (tp_moved c X G) M B i_nm r_nm x_badNum f_badNum i_list i_int i_mvp r_made
  have r_mirrored := ok_mirroredX (P := P) (w := w) (base := base) (tp_mirrored c X G) M B i_nm r_nm i_mip r_made
  have HT := heard_of c X G
  have ne := two_of c
  have t1 := TB _ (List.Mem.head _)
  have t2 := TB _ (List.Mem.tail _ (List.Mem.head _))
  have u1 : ∀ p ∈ ttL K, p.1 = tabAt K pShift → p.2 = lamQ "_law_shift_right" sLawShiftRight := fun p hp e => by
    rcases List.mem_cons.mp hp with rfl | hp
    · rfl
    · obtain rfl := List.mem_singleton.mp hp
      exact absurd e.symm ne
  have u2 : ∀ p ∈ ttL K, p.1 = tabAt K pRefused → p.2 = lamQ "_law_refused_right" sLawRefusedRight := fun p hp e => by
    rcases List.mem_cons.mp hp with rfl | hp
    · exact absurd e ne
    · obtain rfl := List.mem_singleton.mp hp
      rfl
  have l_shift := ok_law_shift_right (P := P) (w := w) (base := base) (TT := ttL K) (tp__law_shift_right c X G) (code_of (c.glo X G 78)) t1 (List.Mem.head _) u1 (tp__law_heard c X G) HT M B B.repr EQ l_pick l_moor l_shifted l_stands r_moved i_moved (ck_moved c X G g_moved) l_alike
  have l_mirror := ok_law_mirror_right (P := P) (w := w) (base := base) (tp__law_mirror_right c X G) M B B.repr EQ (ck_mirrored c X G g_mirrored) i_mirrored l_turned l_alike
  have l_refused := ok_law_refused_right (P := P) (w := w) (base := base) (TT := ttL K) (tp__law_refused_right c X G) (code_of (c.glo X G 76)) t2 (List.Mem.tail _ (List.Mem.head _)) u2 (tp__law_heard c X G) HT M B (oddB_ok (c.is (t := ot2) 2)) l_pick k_mk r_moved r_mirrored i_mirrored
  exact fn_law B l_wharf l_moor l_pieces k_mk l_shift l_mirror l_refused
theorem law_says {l : PySem.W.OpenLaw} {fa : Addr} (hP : l.prog.main.file = flL) (hs : (l.prog.main.scope.names.lookup ("super" : Str)).isSome = false) (c : SaysQ askL h K) (X : K.In h) (G : h.Ns mainGlobals mg) (hfa : mg "law" = some (.ref fa)) : LawG l w K 14 63 "_law_script" mg fa h := by
  obtain ⟨fd, F⟩ := c.def_ 57 (d := dfn "law" 98) rfl
  have F' : FunD K "law" "law" (C8.fnArgs sLaw) (C8.fnBody sLaw) (C8.fnScope sLaw) [] [] (He.fAd K ("law", none)) fd := F
  have e := c.glo X G (x := "law") 79
  rw [hfa] at e
  obtain rfl : fa = He.ga K "law" := Value.ref.inj (Option.some.inj e)
  have D : C8.Def K mg "law" sLaw (He.ga K "law") fd := ⟨fun_of F', hfa, F'.kp⟩
  refine ⟨fd, csL K, _, fun p hp => ?_, fun s u => F'.bindsA (ps := ["_law_script"]) (fun _ _ _ _ _ _ us hl => match us, hl with | [_], _ => rfl) s [u] rfl, fun H a ns hl hH hS => ?_, fun base KB GB TB => fn_all hP hs c X G TB _ fd D⟩
  · rcases List.mem_cons.mp hp with rfl | hp
    · obtain ⟨h1, h2, h3⟩ := c.tf pShift (List.Mem.head _)
      exact ⟨h3, h2, PySem.W.codeHd_of_K X h1⟩
    · obtain rfl := List.mem_singleton.mp hp
      obtain ⟨h1, h2, h3⟩ := c.tf pRefused (List.Mem.tail _ (List.Mem.head _))
      exact ⟨h3, h2, PySem.W.codeHd_of_K X h1⟩
  · refine ⟨[.pr (scR K ns)], mu0, fun x _ => x = .d (.bool true), rfl, muok0 H, fun p hp => ?_, .cons ⟨a, rfl, by rw [hid0]; exact hS⟩ .nil, ⟨ns, rfl, fun _ => rfl⟩, fun x μ' v H' q e1 m1 t1 r => ?_⟩
    · rw [hid0]
      rcases List.mem_cons.mp hp with rfl | hp
      · exact .nil (hH _ (List.Mem.head _))
      · obtain rfl := List.mem_singleton.mp hp
        exact .nil (hH _ (List.Mem.tail _ (List.Mem.head _)))
    · subst q
      cases r
      rfl
end
end T12
end
section
set_option Elab.async false
set_option linter.all false
set_option maxRecDepth 100000
set_option maxHeartbeats 0
/-! the run of the top -/
namespace T12
open PySem PySem.W PySem.Calls PyProof.Rows
def nm0 : List PySem.Str := ["_wall", "__name__", "TileError", "BadNumber", "BadPoint", "BadMachine", "BadWay", "Misfit", "BadText", "is_integer", "is_within", "is_list", "LEAST_UNDER", "SMALL_ABOVE", "SMALL_UNDER", "halves", "common", "lowest_in", "plus_in", "times_in"]
def nm1 : List PySem.Str := ["minus_in", "below_in", "total", "text_in", "is_number", "is_small", "kept_number", "need_point", "BAR", "FIGURES", "MOST_FIGURES", "written", "written_fraction", "Scan", "MOST_WIDE", "MOST_PIECES", "FARTHEST", "is_row", "is_corner", "is_piece"]
def nm2 : List PySem.Str := ["kept_row", "kept_piece", "are_unlike", "Machine", "items_in", "piece_in", "held_in", "times_row", "led_in", "need_machine", "moved_piece", "mirrored_piece", "made", "moved", "mirrored", "fixed", "Paper", "Denial", "MOST_WAY", "Goes"]
def nm3 : List PySem.Str := ["Stops", "need_way", "points_on", "run_in", "judged_run", "_law_wharf", "_law_moor", "_law_pick", "_law_pair", "_law_form", "_law_add", "_law_mul", "_law_less", "_law_number", "_law_piece", "_law_pieces", "_law_holds", "_law_leads", "_law_point", "_law_run"]
def nm4 : List PySem.Str := ["_law_way", "_law_there", "_law_goes_alike", "_law_heard", "_law_shifted", "_law_turned", "_law_stands", "_law_shift_right", "_law_mirror_right", "_law_refused_right"]
def nmL : List PySem.Str := nm0 ++ (nm1 ++ (nm2 ++ (nm3 ++ (nm4))))
abbrev rowL : OpenRow := OpenLaw.row PySem.Challenge.rw_timesfloor_k12_whole_machines_moved_and
abbrev qvL : Program := view rowL.prog [98]
abbrev hkL : PySem.W.Hook := hookQ askL 4
def obL (s : PySem.W.SharedT) : AlQ := obsQ askL 4 (HandSHeadRun.getT s)
theorem obL_eq (s : PySem.W.SharedT) : obL s = hkL.obs s.abs := obsQ_eq (HandSHeadRun.getT_eq s)
theorem run_top (w : World) : HandSHeadRun.RunEq rowL qvL hkL obL 7000 nmL w := by
  intro os
  kernel_rfl
end T12
end
set_option Elab.async false
set_option linter.all false
set_option maxRecDepth 100000
set_option maxHeartbeats 0
open PySem PySem.W PySem.Calls PyProof.Rows
theorem PySem.Challenge.cw_timesfloor_k12_whole_machines_moved_and_holds : PySem.Challenge.rw_timesfloor_k12_whole_machines_moved_and.Holds := by
  w_on; o_law
  refine HandSHeadRun.head_any (r := T12.rowL) (q := T12.qvL) (H := T12.hkL) (ob := T12.obL) (M := 7000) (loose := T12.nmL) (d := HandSHeadRun.topDef T12.rowL.prog 98) (kwd := []) T12.obL_eq
    (by kernel_rfl) (fun s => by kernel_rfl) T12.run_top (by kernel_rfl) (by kernel_rfl) (by kernel_rfl) (by rfl) (by first | assumption | decide +kernel) (by decide +kernel) ⟨rfl, rfl, rfl, rfl, rfl, by decide +kernel⟩ ?hw ?hc
  case hw => w_witness2
  case hc =>
    refine T12.walk_ofG (l := PySem.Challenge.rw_timesfloor_k12_whole_machines_moved_and) (n := 63) (k := 14) (x := "_law_script") rfl (by decide) (by kernel_rfl) ⟨rfl, by decide, by decide⟩ ?F
    intro w mg fa h Y G hmg0
    obtain ⟨K, KX, c⟩ := Y
    have hmg : mg ("law" : PySem.Str) = some (.ref fa) := by
      have e : (HandSHeadRun.topDef T12.rowL.prog 98).name = ("law" : PySem.Str) := by kernel_rfl
      rw [← e]
      exact hmg0
    exact ⟨K, KX, T12.law_says (by rfl) (by kernel_rfl) c KX G hmg⟩
