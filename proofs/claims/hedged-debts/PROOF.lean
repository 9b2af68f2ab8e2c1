import PyProof.Rows.All
import Wide.All
import OpenK.AllK
import Wide.FinOn
import HandS.ForMost
import HandS.Wide
import HandS.Rev
import HandS.Zip
import HandS.Walk
import HandS.IsInst
import KE.GoesZip
import KE.GoesEnum
import KE.GoesEnumKw
import HandS.DictSubView0
import HandS.Style
import PySem.Challenge.RW_bondroots_k48_whole_hedged_debts
section
set_option Elab.async false
set_option maxRecDepth 100000
namespace BR
open PySem PySem.Spec PyProof.Rows L2

/-! ### // of ints of any size: room for the division that CPython hands to its own module -/
section
variable {X : Cx}
theorem op_fdivS (hN : X.base.NoSeer) (ht : X.prog.given.tree = none) (hr : Room 40 X.A) (hst : X.stack = X.env :: X.outer)
    (hgen : X.env.scope.isGenerator = false) (hco : X.env.scope.isCoroutine = false) :
    OpR X (binaryOp .FloorDiv) (rI (fun _ j => j ≠ 0) fun i j => .int (i.fdiv j)) := by
  intro pins s σ H x y v u Q I rx ry h
  obtain ⟨i, j, rfl, rfl, hj, q⟩ := h
  obtain ⟨t, rfl⟩ := rx
  obtain ⟨t', rfl⟩ := ry
  have hfr : X.A.frames = some (X.env :: X.outer) := I.ok.frames.trans (congrArg some hst)
  have hse : SeerAt (model X.prog X.w) X.A s.heap :=
    SeerAt.of (hN.keeps I.bk) ht hfr hgen hco I.ok.blt I.ok.glob
  have hdp : X.A.depth + Builtin.pylongFrames < recursionLimit := by
    have := hr.dp
    show X.A.depth + 100 < _
    omega
  exact floordiv_int hj ⟨.int (i.fdiv j), H, I.tok _, ⟨_, rfl⟩, q⟩ (.inr (PylongRoom.of I.nolimit hdp hse))
end

/-! ### the end of a law row, the heap's statics told besides -/
section
variable {P : Program} {w : World} {K : PySem.W.Frag} {mg mb : Str → Option Value} {CX : CXT} {k : Nat} {fa a : Addr}
  {fd : FuncData} {x : Str} {sp : Sp} {s1 : Shared} {vs : List Value} {ns : List Int}

/-- an object that is no list is not hidden where the script alone is tracked -/
theorem hid_at {H : Hp} (hA : ∀ b, H b ≠ none → b = a) (ha : s1.heap.get? a = some { cls := .type "list", data := .seq vs.toArray })
    {b : Addr} {o : Obj} (e : s1.heap.get? b = some o) (d : ∀ z n, o.data ≠ .seq z n) : (hidT s1.heap H).get? b = some o := by
  refine hidT_get e ?_
  cases q : H b with
  | none => rfl
  | some u =>
    have ab : b = a := hA b (by rw [q]; exact fun z => nomatch z)
    rw [ab, ha] at e
    exact absurd (congrArg Obj.data (Option.some.inj e)).symm (d _ _)
theorem hid_ns {H : Hp} (hA : ∀ b, H b ≠ none → b = a) (ha : s1.heap.get? a = some { cls := .type "list", data := .seq vs.toArray })
    {b : Addr} {m : Str → Option Value} (n : s1.heap.Ns b m) : (hidT s1.heap H).Ns b m := by
  obtain ⟨o, es, ep, e, d, r⟩ := n
  exact ⟨o, es, ep, hid_at hA ha e (fun z n q => by rw [d] at q; cases q), d, r⟩
theorem hid_seer {H : Hp} (hA : ∀ b, H b ≠ none → b = a) (ha : s1.heap.get? a = some { cls := .type "list", data := .seq vs.toArray })
    (S : s1.heap.NoSeer) : (hidT s1.heap H).NoSeer where
  statics := by
    obtain ⟨mc, h1, h2⟩ := S.statics
    exact ⟨mc, hid_ns hA ha h1, h2⟩
  mods := by
    obtain ⟨mc, h1, h2⟩ := S.mods
    exact ⟨mc, hid_ns hA ha h1, h2⟩
  imp := by
    obtain ⟨mc, h1, h2⟩ := S.imp
    exact ⟨mc, hid_ns hA ha h1, h2⟩
  main := by
    obtain ⟨m1, bm, ob, h1, h2, h3, h4, h5⟩ := S.main
    refine ⟨m1, bm, ob, hid_ns hA ha h1, h2, hidT_get h3 ?_, h4, h5⟩
    cases q : H bm with
    | none => rfl
    | some u =>
      have ab : bm = a := hA bm (by rw [q]; exact fun z => nomatch z)
      rw [ab, ha] at h3
      rw [← Option.some.inj h3] at h4
      exact absurd h4 (by show ¬ (Value.type "list" = Value.type "module"); simp)

/-- the run of the law's def from an abstract heap in which the script alone may be tracked -/
theorem law_from {H : Hp} (KX : K.In s1.heap) (hns : s1.heap.Ns mainGlobals mg) (hb : s1.heap.Ns builtinsNs mb) (hbb : ∀ x : Str, x ≠ "__name__" → mb x = bootBuiltins x)
    (hlim : s1.heap.NoLimit) (hse : s1.heap.NoSeer) (hg : s1.gens = #[])
    (ha : s1.heap.get? a = some { cls := .type "list", data := .seq vs.toArray }) (hr : Room k callerA)
    (F : ∀ base : Heap, K.In base → base.Ns mainGlobals mg → base.NoSeer → FnOk P w K mg base CX k fa fd [x] sp) (hbind : ∀ (s : Shared) (u : Value), BindsTo s fd ⟨[u], []⟩ [(x, u)])
    (hsp : ∀ H : Hp, Only H → SqL K H a (ns.map V.int) → sp [.ref a] H (fun v _ => v = .bl true) fun _ _ _ => False)
    (hCX : ∀ H e s', CX [] H s1 (fun _ _ _ => False) e s' → False)
    (hO : Only H) (hS : SqL K H a (ns.map V.int)) (hok : HOk P w H s1.heap) (hA : ∀ b, H b ≠ none → b = a) (hK : H a ≠ none → K.lookup a = none) :
    codeAny (model P w) callerA (.call (.ref fa) ⟨[.ref a], []⟩) (fun r s' => r = .ok (.ret (.bool true)) ∧ OldK s1.heap s'.heap ∧ s'.os = s1.os ∧ AllBare s'.gens) s1 := by
  have kb : K.In (hidT s1.heap H) := fun b o e => by
    refine hidT_get (KX b o e) ?_
    cases q : H b with
    | none => rfl
    | some u =>
      have nb : H b ≠ none := by rw [q]; exact fun z => nomatch z
      have ab : b = a := hA b nb
      rw [ab] at nb e
      rw [hK nb] at e
      cases e
  have nlim : (hidT s1.heap H).NoLimit := by
    obtain ⟨mc, h1, h2⟩ := hlim
    exact ⟨mc, hid_ns hA ha h1, h2⟩
  have md : Mod K mg (hidT s1.heap H) := ⟨kb, hid_ns hA ha hns, ⟨mb, hid_ns hA ha hb, hbb⟩, nlim⟩
  have e0 : Env0 P w K mg (hidT s1.heap H) callerA [] s1 H :=
    { frames := rfl, mod := md, bs := fun b o e => of_hidT e, bsz := Nat.le_of_eq (hidT_size _ _), funs := trivial, frf := (fun b z => nomatch z), hok := hok, bare := .of_eq hg }
  have G := F _ kb (hid_ns hA ha hns) (hid_seer hA ha hse)
  have run := G.run callerA [] s1 H ⟨[.ref a], []⟩ [.ref a] [.ref a] _ _ hr e0 (hbind s1 (.ref a)) (.cons rfl .nil) (hsp H hO hS)
  refine codeAny_mono run fun r s' h => ?_
  match r, h with
  | .error e, h => exact (hCX H e s' h).elim
  | .ok .next, h => exact False.elim h
  | .ok .brk, h => exact False.elim h
  | .ok .cont, h => exact False.elim h
  | .ok (.ret u), h =>
    obtain ⟨v, H2, os, bare, un, hok2, rv, q⟩ := h
    have hv : v = .bl true := q
    rw [hv] at rv
    have hu : u = Value.bool true := rv
    rw [hu]
    refine ⟨rfl, OldK.of_keep fun b o e => ?_, os, bare⟩
    rcases hO b with z | ⟨ob, xs, z⟩
    · exact un.keep b o e z (fun y => nomatch y) (fun y => nomatch y)
    · have k1 := (hok b _ z).1
      have k2 := (hok2 b _ (un.frzs b ob _ z)).1
      rw [e] at k1
      rw [Option.some.inj k1]
      exact k2
theorem law_runS (KX : K.In s1.heap) (hns : s1.heap.Ns mainGlobals mg) (hb : s1.heap.Ns builtinsNs mb) (hbb : ∀ x : Str, x ≠ "__name__" → mb x = bootBuiltins x)
    (hlim : s1.heap.NoLimit) (hse : s1.heap.NoSeer) (hg : s1.gens = #[])
    (ha : s1.heap.get? a = some { cls := .type "list", data := .seq vs.toArray }) (hi : IntsAre vs ns) (hl : ns.length ≤ sizeLine) (hr : Room k callerA)
    (F : ∀ base : Heap, K.In base → base.Ns mainGlobals mg → base.NoSeer → FnOk P w K mg base CX k fa fd [x] sp) (hbind : ∀ (s : Shared) (u : Value), BindsTo s fd ⟨[u], []⟩ [(x, u)])
    (hsp : ∀ H : Hp, Only H → SqL K H a (ns.map V.int) → sp [.ref a] H (fun v _ => v = .bl true) fun _ _ _ => False)
    (hCX : ∀ H e s', CX [] H s1 (fun _ _ _ => False) e s' → False) :
    codeAny (model P w) callerA (.call (.ref fa) ⟨[.ref a], []⟩) (fun r s' => r = .ok (.ret (.bool true)) ∧ OldK s1.heap s'.heap ∧ s'.os = s1.os ∧ AllBare s'.gens) s1 := by
  have rv := vals_ints hi
  by_cases hk : K.lookup a = none
  · let H : Hp := fun b => if b = a then some (.frz { cls := .type "list", data := .seq vs.toArray } (.lst (ns.map V.int))) else none
    have at_a : H a = some (.frz { cls := .type "list", data := .seq vs.toArray } (.lst (ns.map V.int))) := if_pos rfl
    have off : ∀ {b}, b ≠ a → H b = none := fun h => if_neg h
    refine law_from (H := H) KX hns hb hbb hlim hse hg ha hr F hbind hsp hCX (fun b => ?_) (.inl (.inr ⟨_, at_a⟩)) (fun b u z => ?_) (fun b z => ?_) fun _ => hk
    · by_cases h : b = a
      · rw [h]; exact .inr ⟨_, _, at_a⟩
      · exact .inl (off h)
    · by_cases h : b = a
      · rw [h] at z ⊢
        rw [at_a] at z
        rw [← Option.some.inj z]
        exact ⟨ha, by rw [List.length_map]; exact hl, vs, _, rv, ha⟩
      · rw [off h] at z
        cases z
    · by_cases h : b = a
      · exact h
      · exact absurd (off h) z
  · obtain ⟨o, ho⟩ := Option.ne_none_iff_exists'.mp hk
    have e := KX a o ho
    rw [ha] at e
    rw [← Option.some.inj e] at ho
    have hsz : vs.toArray.size ≤ sizeLine := by rw [List.size_toArray, hi.length]; exact hl
    exact law_from (H := fun _ => none) KX hns hb hbb hlim hse hg ha hr F hbind hsp hCX (fun _ => .inl rfl)
      (.inr ⟨_, vs.toArray, _, ho, rfl, rfl, rfl, hsz, by simpa using rv⟩) (fun b u z => nomatch z) (fun b z => absurd rfl z) fun z => absurd rfl z
end

/-- what k_head leaves, from the law's promise over a base that bears no seer -/
theorem walk_ofS {l : PySem.W.OpenLaw} {n k : Nat} {q : Program} {loose : List Str} {XP : (Str → Option Value) → Heap → Prop} {YP : World → Heap → Prop} {d : DefRec} {K : Params → PySem.W.Frag} {CX : World → CXT} {sp : World → Sp} {x : Str}
    (hq : importsNone q = true)
    (hn : l.most = some n) (hn2 : n ≤ sizeLine) (hdf : d.params.defaults = []) (hr : Room k callerA)
    (hY : ∀ (w : World) (h : Heap), YP w h → (K w.params).In h)
    (F : ∀ (w : World) (mg : Str → Option Value) (fa : Addr) (h : Heap), (K w.params).In h → h.Ns mainGlobals mg → mg d.name = some (.ref fa) →
      ∃ fd : FuncData, (∀ (s : Shared) (u : Value), BindsTo s fd ⟨[u], []⟩ [(x, u)]) ∧
        ∀ base : Heap, (K w.params).In base → base.Ns mainGlobals mg → base.NoSeer → FnOk l.prog w (K w.params) mg base (CX w) k fa fd [x] (sp w))
    (hsp : ∀ (w : World) (H : Hp) (a : Addr) (ns : List Int), ns.length ≤ n → Only H → SqL (K w.params) H a (ns.map V.int) → sp w [.ref a] H (fun v _ => v = .bl true) fun _ _ _ => False)
    (hCX : ∀ (w : World) (H : Hp) (s : Shared) (e : Value) (s' : Shared), CX w [] H s (fun _ _ _ => False) e s' → False) :
    PySem.W.WalkO q loose XP YP l.row.toRowW d [] (fun f vs => PySem.call f vs) := by
  refine Att.attach_call hn hdf fun w s0 s1 mg mb fa o pm cd doc a vs ns G Y ho hd hcd hmg hobj hints hlen hg => ?_
  obtain ⟨fd, hb, hF⟩ := F w mg fa s1.heap (hY w _ Y) G.T.g hmg
  refine law_runS (hY w _ Y) G.T.g G.T.b G.T.builtins G.T.nolimit (G.T.seer hq) hg hobj hints (Nat.le_trans hlen hn2) hr hF hb (fun H hO hS => ?_) fun H e s' z => ?_
  · exact hsp w H a ns hlen hO hS
  · exact hCX w H s1 e s' z
end BR
end
section
/-! Fractions: the program's fraction(top, bottom) is Rat.divInt; sizes in bits. -/
namespace BR
/-- top // common, bottom // common with common the divisor under bottom's sign -/
def comm (t b : Int) : Int := if b < 0 then 0 - (Int.gcd t b : Int) else (Int.gcd t b : Int)
theorem comm_ne {t b : Int} (hb : b ≠ 0) : comm t b ≠ 0 := by
  have h : (Int.gcd t b : Int) ≠ 0 := by
    have := Int.gcd_ne_zero_right (a := t) hb
    omega
  unfold comm
  split <;> omega
theorem fdiv_neg_of_dvd {t g : Int} (hg : 0 < g) (hd : g ∣ t) : t.fdiv (0 - g) = -(t / g) := by
  obtain ⟨k, rfl⟩ := hd
  rw [Int.mul_ediv_cancel_left _ (by omega)]
  rw [Int.fdiv_eq_ediv_of_dvd ⟨-k, by rw [Int.zero_sub, Int.neg_mul_neg]⟩]
  rw [Int.zero_sub, Int.ediv_neg, Int.mul_ediv_cancel_left _ (by omega)]
theorem frac_num {t b : Int} (hb : b ≠ 0) : t.fdiv (comm t b) = (Rat.divInt t b).num := by
  have h0 : (0 : Int) < Int.gcd t b := by
    have := Int.gcd_ne_zero_right (a := t) hb
    omega
  rw [Rat.num_divInt, Int.gcd_comm b t]
  unfold comm
  by_cases h : b < 0
  · rw [if_pos h, fdiv_neg_of_dvd h0 (Int.gcd_dvd_left ..), Int.sign_eq_neg_one_of_neg h, Int.neg_mul, Int.one_mul, Int.neg_ediv_of_dvd (Int.gcd_dvd_left ..)]
  · rw [if_neg h, Int.fdiv_eq_ediv_of_nonneg _ (by omega), Int.sign_eq_one_of_pos (by omega), Int.one_mul]
theorem frac_den {t b : Int} (hb : b ≠ 0) : b.fdiv (comm t b) = ((Rat.divInt t b).den : Int) := by
  have h0 : (0 : Int) < Int.gcd t b := by
    have := Int.gcd_ne_zero_right (a := t) hb
    omega
  rw [Rat.den_divInt, Int.gcd_comm b t, if_neg hb]
  have hd : (Int.gcd t b : Int) ∣ b := Int.gcd_dvd_right ..
  unfold comm
  by_cases h : b < 0
  · rw [if_pos h, fdiv_neg_of_dvd h0 hd, ← Int.neg_ediv_of_dvd hd, Int.natCast_ediv]
    congr 1
    omega
  · rw [if_neg h, Int.fdiv_eq_ediv_of_nonneg _ (by omega), Int.natCast_ediv]
    congr 1
    omega

theorem den_ne (q : Rat) : (q.den : Int) ≠ 0 := by
  have := q.den_nz
  omega
theorem divInt_self (q : Rat) : Rat.divInt q.num q.den = q := Rat.num_divInt_den q
theorem add_frac (a b : Rat) : Rat.divInt (a.num * b.den + b.num * a.den) (a.den * b.den) = a + b := by
  have h := Rat.divInt_add_divInt a.num b.num (den_ne a) (den_ne b)
  rw [divInt_self, divInt_self] at h
  exact h.symm
theorem sub_frac (a b : Rat) : Rat.divInt (a.num * b.den - b.num * a.den) (a.den * b.den) = a - b := by
  have h := Rat.divInt_sub_divInt a.num b.num (den_ne a) (den_ne b)
  rw [divInt_self, divInt_self] at h
  exact h.symm
theorem mul_frac (a b : Rat) : Rat.divInt (a.num * b.num) (a.den * b.den) = a * b := by
  have h := Rat.divInt_mul_divInt a.num b.num (d₁ := a.den) (d₂ := b.den)
  rw [divInt_self, divInt_self] at h
  exact h.symm
theorem div_frac (a b : Rat) : Rat.divInt (a.num * b.den) (a.den * b.num) = a / b := by
  have h := Rat.divInt_mul_divInt a.num b.den (d₁ := a.den) (d₂ := b.num)
  rw [divInt_self, ← Rat.inv_def] at h
  exact h.symm
theorem num_ne {q : Rat} (h : q ≠ 0) : q.num ≠ 0 := fun z => h (Rat.num_eq_zero.mp z)
theorem mulden_ne (a b : Rat) : (a.den : Int) * b.den ≠ 0 := Int.mul_ne_zero (den_ne a) (den_ne b)
theorem divden_ne (a : Rat) {b : Rat} (h : b ≠ 0) : (a.den : Int) * b.num ≠ 0 := Int.mul_ne_zero (den_ne a) (num_ne h)

/-! ### sizes -/
def Sz (n : Nat) (q : Rat) : Prop := q.num.natAbs < 2 ^ n ∧ q.den < 2 ^ n
theorem Sz.mono {m n : Nat} {q : Rat} (h : Sz m q) (hm : m ≤ n) : Sz n q :=
  ⟨Nat.lt_of_lt_of_le h.1 (Nat.pow_le_pow_right (by decide) hm), Nat.lt_of_lt_of_le h.2 (Nat.pow_le_pow_right (by decide) hm)⟩
theorem Sz.pos {n : Nat} {q : Rat} (h : Sz n q) : 0 < n := by
  cases n with
  | zero =>
    have h2 : q.den < 1 := h.2
    have := q.den_nz
    omega
  | succ n => exact Nat.succ_pos n
theorem sz_divInt {n : Nat} {t b : Int} (hb : b ≠ 0) (h1 : t.natAbs < 2 ^ n) (h2 : b.natAbs < 2 ^ n) : Sz n (Rat.divInt t b) := by
  have key : ∀ {x c : Int}, x.natAbs < 2 ^ n → c ∣ x → (x.fdiv c).natAbs < 2 ^ n := by
    intro x c hx hd
    rw [Int.fdiv_eq_ediv_of_dvd hd]
    exact Nat.lt_of_le_of_lt (Int.natAbs_ediv_le_natAbs x c) hx
  have d1 : comm t b ∣ t := by
    unfold comm
    split
    · rw [Int.zero_sub]; exact Int.neg_dvd.mpr (Int.gcd_dvd_left ..)
    · exact Int.gcd_dvd_left ..
  have d2 : comm t b ∣ b := by
    unfold comm
    split
    · rw [Int.zero_sub]; exact Int.neg_dvd.mpr (Int.gcd_dvd_right ..)
    · exact Int.gcd_dvd_right ..
  refine ⟨?_, ?_⟩
  · rw [← frac_num hb]
    exact key h1 d1
  · have := key h2 d2
    rw [frac_den hb] at this
    exact this
theorem bits_mul {m n : Nat} {x y : Int} (hx : x.natAbs < 2 ^ m) (hy : y.natAbs < 2 ^ n) : (x * y).natAbs < 2 ^ (m + n) := by
  rw [Int.natAbs_mul, Nat.pow_add]
  exact Nat.mul_lt_mul'' hx hy
theorem bits_add {m : Nat} {x y : Int} (hx : x.natAbs < 2 ^ m) (hy : y.natAbs < 2 ^ m) : (x + y).natAbs < 2 ^ (m + 1) := by
  rw [Nat.pow_succ]
  omega
theorem bits_sub {m : Nat} {x y : Int} (hx : x.natAbs < 2 ^ m) (hy : y.natAbs < 2 ^ m) : (x - y).natAbs < 2 ^ (m + 1) := by
  rw [Nat.pow_succ]
  omega
theorem bits_up {m n : Nat} {x : Int} (hx : x.natAbs < 2 ^ m) (h : m ≤ n) : x.natAbs < 2 ^ n := Nat.lt_of_lt_of_le hx (Nat.pow_le_pow_right (by decide) h)
theorem den_bits {n : Nat} {q : Rat} (h : Sz n q) : ((q.den : Int)).natAbs < 2 ^ n := by
  rw [Int.natAbs_natCast]
  exact h.2
theorem Sz.add {m n : Nat} {p q : Rat} (hp : Sz m p) (hq : Sz n q) : Sz (m + n + 1) (p + q) := by
  rw [← add_frac]
  refine sz_divInt (mulden_ne p q) (bits_add (bits_mul hp.1 (den_bits hq)) ?_) (bits_up (bits_mul (den_bits hp) (den_bits hq)) (Nat.le_succ _))
  rw [Nat.add_comm m n]
  exact bits_mul hq.1 (den_bits hp)
theorem Sz.sub {m n : Nat} {p q : Rat} (hp : Sz m p) (hq : Sz n q) : Sz (m + n + 1) (p - q) := by
  rw [← sub_frac]
  refine sz_divInt (mulden_ne p q) (bits_sub (bits_mul hp.1 (den_bits hq)) ?_) (bits_up (bits_mul (den_bits hp) (den_bits hq)) (Nat.le_succ _))
  rw [Nat.add_comm m n]
  exact bits_mul hq.1 (den_bits hp)
theorem Sz.mul {m n : Nat} {p q : Rat} (hp : Sz m p) (hq : Sz n q) : Sz (m + n) (p * q) := by
  rw [← mul_frac]
  exact sz_divInt (mulden_ne p q) (bits_mul hp.1 hq.1) (bits_mul (den_bits hp) (den_bits hq))
theorem Sz.zero {n : Nat} (h : 1 ≤ n) : Sz n 0 := by
  have : 2 ^ 1 ≤ 2 ^ n := Nat.pow_le_pow_right (by decide) h
  exact ⟨by show 0 < 2 ^ n; omega, by show 1 < 2 ^ n; omega⟩
theorem Sz.one {n : Nat} (h : 1 ≤ n) : Sz n 1 := by
  have : 2 ^ 1 ≤ 2 ^ n := Nat.pow_le_pow_right (by decide) h
  exact ⟨by show 1 < 2 ^ n; omega, by show 1 < 2 ^ n; omega⟩
theorem Sz.div {m n : Nat} {p q : Rat} (hp : Sz m p) (hq : Sz n q) : Sz (m + n) (p / q) := by
  by_cases h : q = 0
  · subst h
    have h1 := hp.pos
    rw [Rat.div_def, Rat.inv_zero, Rat.mul_zero]
    exact Sz.zero (by omega)
  · rw [← div_frac]
    exact sz_divInt (divden_ne p h) (bits_mul hp.1 (den_bits hq)) (bits_mul (den_bits hp) hq.1)

/-! ### the euclidean loop -/
theorem gcd_fmod (a b : Int) : Int.gcd b (a.fmod b) = Int.gcd a b := by
  rw [Int.fmod_def, Int.gcd_comm a b, Int.sub_eq_add_neg, ← Int.mul_neg]
  exact Int.gcd_add_mul_left_right ..
theorem fmod_lt {a b : Int} (hb : b ≠ 0) : (a.fmod b).natAbs < b.natAbs := by
  rcases Int.lt_or_gt_of_ne hb with h | h
  · have e : a.fmod b = -((-a).fmod (-b)) := by rw [Int.neg_fmod_neg, Int.neg_neg]
    have h1 := Int.fmod_nonneg_of_pos (-a) (b := -b) (by omega)
    have h2 := Int.fmod_lt_of_pos (-a) (b := -b) (by omega)
    omega
  · have h1 := Int.fmod_nonneg_of_pos a h
    have h2 := Int.fmod_lt_of_pos a h
    omega
end BR
end
section
/-! Two equations: the elimination of the program over Rat, for two rows. -/
namespace BR
def atR (r : List Rat) (j : Nat) : Rat := r.getD j 0
def dotP : List Rat → List Rat → Rat
  | a :: as, b :: bs => a * b + dotP as bs
  | _, _ => 0
def lessL (r o : List Rat) (f : Rat) : List Rat := List.zipWith (fun a b => a - f * b) r o
def scaleL (r : List Rat) (p : Rat) : List Rat := r.map fun a => a / p
theorem lessL_len {r o : List Rat} {f : Rat} (h : r.length = o.length) : (lessL r o f).length = r.length := by
  unfold lessL
  rw [List.length_zipWith, h, Nat.min_self]
theorem scaleL_len {r : List Rat} {p : Rat} : (scaleL r p).length = r.length := List.length_map ..
theorem atR_scale (r : List Rat) (p : Rat) (j : Nat) : atR (scaleL r p) j = atR r j / p := by
  unfold atR scaleL
  rw [List.getD_eq_getElem?_getD, List.getD_eq_getElem?_getD, List.getElem?_map]
  cases r[j]? with
  | none =>
    show (0 : Rat) = 0 / p
    grind
  | some x => rfl
theorem atR_less {r o : List Rat} (f : Rat) (h : r.length = o.length) (j : Nat) : atR (lessL r o f) j = atR r j - f * atR o j := by
  unfold atR lessL
  rw [List.getD_eq_getElem?_getD, List.getD_eq_getElem?_getD, List.getD_eq_getElem?_getD, List.getElem?_zipWith]
  by_cases hj : j < r.length
  · rw [List.getElem?_eq_getElem hj, List.getElem?_eq_getElem (h ▸ hj)]
    rfl
  · rw [List.getElem?_eq_none (Nat.le_of_not_lt hj), List.getElem?_eq_none (by omega)]
    show (0 : Rat) = 0 - f * 0
    grind
theorem dotP_nil (l : List Rat) : dotP l [] = 0 := by cases l <;> rfl
theorem dotP_scale (p : Rat) : ∀ (r Z : List Rat), dotP (scaleL r p) Z = dotP r Z / p
  | [], Z => by
    show (0 : Rat) = 0 / p
    grind
  | a :: r, [] => by
    show (0 : Rat) = 0 / p
    grind
  | a :: r, z :: Z => by
    have ih := dotP_scale p r Z
    show a / p * z + dotP (scaleL r p) Z = (a * z + dotP r Z) / p
    rw [ih]
    grind
theorem dotP_less (f : Rat) : ∀ (r o Z : List Rat), r.length = o.length → dotP (lessL r o f) Z = dotP r Z - f * dotP o Z
  | [], [], Z, _ => by
    show (0 : Rat) = 0 - f * 0
    grind
  | a :: r, b :: o, [], _ => by
    show (0 : Rat) = 0 - f * 0
    grind
  | a :: r, b :: o, z :: Z, h => by
    have ih := dotP_less f r o Z (Nat.succ.inj h)
    show (a - f * b) * z + dotP (lessL r o f) Z = (a * z + dotP r Z) - f * (b * z + dotP o Z)
    rw [ih]
    grind
theorem dotP_append : ∀ (X Y r : List Rat), dotP r (X ++ Y) = dotP r X + dotP (r.drop X.length) Y
  | [], Y, r => by
    rw [dotP_nil]
    show dotP r Y = 0 + dotP r Y
    grind
  | x :: X, Y, [] => by
    show (0 : Rat) = 0 + dotP ([] : List Rat) Y
    cases Y <;> (show (0 : Rat) = 0 + 0; grind)
  | x :: X, Y, a :: r => by
    have ih := dotP_append X Y r
    show a * x + dotP r (X ++ Y) = a * x + dotP r X + dotP (r.drop X.length) Y
    rw [ih]
    grind
theorem dotP_left : ∀ (a x b : List Rat), a.length = x.length → dotP (a ++ b) x = dotP a x
  | [], [], b, _ => dotP_nil _
  | p :: a, q :: x, b, h => by
    have ih := dotP_left a x b (Nat.succ.inj h)
    show p * q + dotP (a ++ b) x = p * q + dotP a x
    rw [ih]
theorem dotP_zeros : ∀ (n : Nat) (r : List Rat), dotP r (List.replicate n 0) = 0
  | 0, r => dotP_nil r
  | n + 1, [] => rfl
  | n + 1, a :: r => by
    have ih := dotP_zeros n r
    show a * 0 + dotP r (List.replicate n 0) = 0
    rw [ih]
    grind
theorem dotP_zeroL : ∀ (x r : List Rat), (∀ j, j < x.length → atR r j = 0) → dotP r x = 0
  | [], r, _ => dotP_nil r
  | y :: x, [], _ => rfl
  | y :: x, a :: r, h => by
    have h0 : a = 0 := h 0 (Nat.succ_pos _)
    have ih := dotP_zeroL x r fun j hj => h (j + 1) (Nat.succ_lt_succ hj)
    show a * y + dotP r x = 0
    rw [ih, h0]
    grind
theorem dotP_set (v : Rat) : ∀ (X r : List Rat) (p : Nat), p < X.length → dotP r (X.set p v) = dotP r X - atR r p * atR X p + atR r p * v
  | [], r, p, h => absurd h (Nat.not_lt_zero _)
  | x :: X, [], p, h => by
    have e : ∀ Y : List Rat, dotP [] Y = 0 := fun Y => by cases Y <;> rfl
    rw [e, e]
    show (0 : Rat) = 0 - 0 * _ + 0 * v
    grind
  | x :: X, a :: r, 0, _ => by
    show a * v + dotP r X = a * x + dotP r X - a * x + a * v
    grind
  | x :: X, a :: r, p + 1, h => by
    have ih := dotP_set v X r p (Nat.lt_of_succ_lt_succ h)
    show a * x + dotP r (X.set p v) = a * x + dotP r X - atR r p * atR X p + atR r p * v
    rw [ih]
    grind
theorem dotP_drop1 {n : Nat} {r : List Rat} (z : Rat) (h : n < r.length) : dotP (r.drop n) [z] = atR r n * z := by
  rw [List.drop_eq_getElem_cons h]
  show r[n] * z + dotP (r.drop (n + 1)) [] = _
  rw [dotP_nil]
  unfold atR
  rw [List.getD_eq_getElem?_getD, List.getElem?_eq_getElem h]
  show r[n] * z + 0 = r[n] * z
  grind
/-- what a row leaves at x: its sum less its goal -/
theorem dotP_res {n : Nat} {r x : List Rat} (hx : x.length = n) (h : n < r.length) : dotP r (x ++ [-1]) = dotP r x - atR r n := by
  rw [dotP_append, hx, dotP_drop1 _ h]
  grind
theorem atR_zeros (n p : Nat) : atR (List.replicate n 0) p = 0 := by
  unfold atR
  rw [List.getD_eq_getElem?_getD, List.getElem?_replicate]
  split <;> rfl
theorem atR_set_ne {X : List Rat} {p q : Nat} {v : Rat} (h : p ≠ q) : atR (X.set p v) q = atR X q := by
  unfold atR
  rw [List.getD_eq_getElem?_getD, List.getD_eq_getElem?_getD, List.getElem?_set_ne h]

/-! ### the elimination -/
structure El where
  r0 : List Rat
  r1 : List Rat
  leads : List Nat
def El.step (s : El) (c : Nat) : El :=
  match s.leads with
  | [] =>
    if atR s.r0 c ≠ 0 then ⟨scaleL s.r0 (atR s.r0 c), lessL s.r1 (scaleL s.r0 (atR s.r0 c)) (atR s.r1 c), [c]⟩
    else if atR s.r1 c ≠ 0 then ⟨scaleL s.r1 (atR s.r1 c), lessL s.r0 (scaleL s.r1 (atR s.r1 c)) (atR s.r0 c), [c]⟩
    else s
  | [p] => if atR s.r1 c ≠ 0 then ⟨lessL s.r0 (scaleL s.r1 (atR s.r1 c)) (atR s.r0 c), scaleL s.r1 (atR s.r1 c), [p, c]⟩ else s
  | _ => s
def wide0 (a : List Rat) (g : Rat) : List Rat := a ++ [g] ++ [1, 0]
def wide1 (b : List Rat) (g : Rat) : List Rat := b ++ [g] ++ [0, 1]
def elim (a b : List Rat) (g h : Rat) : Nat → El
  | 0 => ⟨wide0 a g, wide1 b h, []⟩
  | c + 1 => (elim a b g h c).step c
def Ech (c : Nat) (r0 r1 : List Rat) : List Nat → Prop
  | [] => ∀ j, j < c → atR r0 j = 0 ∧ atR r1 j = 0
  | [p] => p < c ∧ atR r0 p = 1 ∧ ∀ j, j < c → atR r1 j = 0
  | [p, q] => p < q ∧ q < c ∧ atR r0 p = 1 ∧ atR r0 q = 0 ∧ atR r1 p = 0 ∧ atR r1 q = 1
  | _ => False
def SzR (k : Nat) (r : List Rat) : Prop := ∀ q ∈ r, Sz k q
def grown (S : Nat) : Nat → Nat
  | 0 => S
  | k + 1 => 4 * grown S k + 1
theorem SzR.at {k : Nat} {r : List Rat} (h : SzR k r) (hk : 1 ≤ k) (j : Nat) : Sz k (atR r j) := by
  unfold atR
  rw [List.getD_eq_getElem?_getD]
  by_cases hj : j < r.length
  · rw [List.getElem?_eq_getElem hj]
    exact h _ (List.getElem_mem hj)
  · rw [List.getElem?_eq_none (Nat.le_of_not_lt hj)]
    exact Sz.zero hk
theorem SzR.scale {k : Nat} {r : List Rat} {p : Rat} (h : SzR k r) (hp : Sz k p) : SzR (4 * k + 1) (scaleL r p) := by
  intro q hq
  obtain ⟨x, hx, rfl⟩ := List.mem_map.mp hq
  exact ((h x hx).div hp).mono (by omega)
theorem SzR.scale2 {k : Nat} {r : List Rat} {p : Rat} (h : SzR k r) (hp : Sz k p) : SzR (2 * k) (scaleL r p) := by
  intro q hq
  obtain ⟨x, hx, rfl⟩ := List.mem_map.mp hq
  exact ((h x hx).div hp).mono (by omega)
theorem mem_less {f : Rat} : ∀ {r o : List Rat} {q : Rat}, q ∈ lessL r o f → ∃ a ∈ r, ∃ b ∈ o, q = a - f * b
  | [], _, q, h => by cases h
  | a :: r, [], q, h => by cases h
  | a :: r, b :: o, q, h => by
    rcases List.mem_cons.mp (show q ∈ (a - f * b) :: lessL r o f from h) with e | h
    · exact ⟨a, List.mem_cons_self, b, List.mem_cons_self, e⟩
    · obtain ⟨x, hx, y, hy, e⟩ := mem_less h
      exact ⟨x, List.mem_cons_of_mem _ hx, y, List.mem_cons_of_mem _ hy, e⟩
theorem SzR.less {k : Nat} {r o : List Rat} {f : Rat} (h : SzR k r) (ho : SzR (2 * k) o) (hf : Sz k f) : SzR (4 * k + 1) (lessL r o f) := by
  intro q hq
  obtain ⟨a, ha, b, hb, rfl⟩ := mem_less hq
  exact ((h a ha).sub (hf.mul (ho b hb))).mono (by omega)
/-- what holds at each column -/
structure ElOk (S : Nat) (a b : List Rat) (g h : Rat) (n c : Nat) (s : El) : Prop where
  l0 : s.r0.length = n + 3
  l1 : s.r1.length = n + 3
  eqv : ∀ Z, (dotP s.r0 Z = 0 ∧ dotP s.r1 Z = 0) ↔ (dotP (wide0 a g) Z = 0 ∧ dotP (wide1 b h) Z = 0)
  ech : Ech c s.r0 s.r1 s.leads
  s0 : SzR (grown S s.leads.length) s.r0
  s1 : SzR (grown S s.leads.length) s.r1
theorem grown_pos {S : Nat} (h : 1 ≤ S) : ∀ k, 1 ≤ grown S k
  | 0 => h
  | k + 1 => by
    show 1 ≤ 4 * grown S k + 1
    omega
theorem div_zero_iff {x p : Rat} (hp : p ≠ 0) : x / p = 0 ↔ x = 0 := by
  constructor
  · intro h
    have : x / p * p = x := Rat.div_mul_cancel hp
    rw [h] at this
    grind
  · rintro rfl
    grind
/-- the rows' zeros are those of the lead and of the other row less a multiple of it -/
theorem pivot_zero {r o Z : List Rat} {p f : Rat} (hp : p ≠ 0) (hl : r.length = o.length) :
    (dotP (scaleL r p) Z = 0 ∧ dotP (lessL o (scaleL r p) f) Z = 0) ↔ (dotP r Z = 0 ∧ dotP o Z = 0) := by
  have hl2 : o.length = (scaleL r p).length := by rw [scaleL_len, hl]
  rw [dotP_less f _ _ _ hl2, dotP_scale, div_zero_iff hp]
  constructor
  · rintro ⟨h1, h2⟩
    rw [h1] at h2
    exact ⟨h1, by grind⟩
  · rintro ⟨h1, h2⟩
    rw [h1, h2]
    exact ⟨rfl, by grind⟩
theorem step_a {r0 r1 : List Rat} {c : Nat} (h : atR r0 c ≠ 0) : El.step ⟨r0, r1, []⟩ c = ⟨scaleL r0 (atR r0 c), lessL r1 (scaleL r0 (atR r0 c)) (atR r1 c), [c]⟩ := by
  unfold El.step
  dsimp only
  rw [if_pos h]
theorem step_b {r0 r1 : List Rat} {c : Nat} (h : ¬ atR r0 c ≠ 0) (h1 : atR r1 c ≠ 0) : El.step ⟨r0, r1, []⟩ c = ⟨scaleL r1 (atR r1 c), lessL r0 (scaleL r1 (atR r1 c)) (atR r0 c), [c]⟩ := by
  unfold El.step
  dsimp only
  rw [if_neg h, if_pos h1]
theorem step_c {r0 r1 : List Rat} {c : Nat} (h : ¬ atR r0 c ≠ 0) (h1 : ¬ atR r1 c ≠ 0) : El.step ⟨r0, r1, []⟩ c = ⟨r0, r1, []⟩ := by
  unfold El.step
  dsimp only
  rw [if_neg h, if_neg h1]
theorem step_d {r0 r1 : List Rat} {p c : Nat} (h1 : atR r1 c ≠ 0) : El.step ⟨r0, r1, [p]⟩ c = ⟨lessL r0 (scaleL r1 (atR r1 c)) (atR r0 c), scaleL r1 (atR r1 c), [p, c]⟩ := by
  unfold El.step
  dsimp only
  rw [if_pos h1]
theorem step_e {r0 r1 : List Rat} {p c : Nat} (h1 : ¬ atR r1 c ≠ 0) : El.step ⟨r0, r1, [p]⟩ c = ⟨r0, r1, [p]⟩ := by
  unfold El.step
  dsimp only
  rw [if_neg h1]
theorem step_f {r0 r1 : List Rat} {p q c : Nat} : El.step ⟨r0, r1, [p, q]⟩ c = ⟨r0, r1, [p, q]⟩ := rfl
section
variable {S : Nat} {a b : List Rat} {g h : Rat} {n c : Nat} {r0 r1 : List Rat}
theorem ok_a (hS : 1 ≤ S) (o : ElOk S a b g h n c ⟨r0, r1, []⟩) (h0 : atR r0 c ≠ 0) : ElOk S a b g h n (c + 1) (El.step ⟨r0, r1, []⟩ c) := by
  have l0 : r0.length = n + 3 := o.l0
  have l1 : r1.length = n + 3 := o.l1
  have hl : r0.length = r1.length := by rw [l0, l1]
  have gp : 1 ≤ grown S 0 := grown_pos hS 0
  have ech : ∀ j, j < c → atR r0 j = 0 ∧ atR r1 j = 0 := o.ech
  have s0 : SzR (grown S 0) r0 := o.s0
  have s1 : SzR (grown S 0) r1 := o.s1
  have hl2 : r1.length = (scaleL r0 (atR r0 c)).length := by rw [scaleL_len, hl]
  rw [step_a h0]
  refine ⟨scaleL_len.trans l0, (lessL_len hl2).trans l1, fun Z => Iff.trans (pivot_zero h0 hl) (o.eqv Z), ⟨Nat.lt_succ_self _, ?_, fun j hj => ?_⟩, s0.scale (s0.at gp _), s1.less (s0.scale2 (s0.at gp _)) (s1.at gp _)⟩
  · rw [atR_scale]
    grind
  · rw [atR_less _ hl2, atR_scale]
    by_cases hc : j = c
    · subst hc
      grind
    · have := ech j (by omega)
      rw [this.1, this.2]
      grind
theorem ok_b (hS : 1 ≤ S) (o : ElOk S a b g h n c ⟨r0, r1, []⟩) (h0 : ¬ atR r0 c ≠ 0) (h1 : atR r1 c ≠ 0) : ElOk S a b g h n (c + 1) (El.step ⟨r0, r1, []⟩ c) := by
  have l0 : r0.length = n + 3 := o.l0
  have l1 : r1.length = n + 3 := o.l1
  have hl : r0.length = r1.length := by rw [l0, l1]
  have gp : 1 ≤ grown S 0 := grown_pos hS 0
  have ech : ∀ j, j < c → atR r0 j = 0 ∧ atR r1 j = 0 := o.ech
  have s0 : SzR (grown S 0) r0 := o.s0
  have s1 : SzR (grown S 0) r1 := o.s1
  have h0' : atR r0 c = 0 := by grind
  have hl2 : r0.length = (scaleL r1 (atR r1 c)).length := by rw [scaleL_len, hl]
  rw [step_b h0 h1]
  refine ⟨scaleL_len.trans l1, (lessL_len hl2).trans l0, fun Z => Iff.trans (Iff.trans (pivot_zero h1 hl.symm) And.comm) (o.eqv Z), ⟨Nat.lt_succ_self _, ?_, fun j hj => ?_⟩, s1.scale (s1.at gp _), s0.less (s1.scale2 (s1.at gp _)) (s0.at gp _)⟩
  · rw [atR_scale]
    grind
  · rw [atR_less _ hl2, atR_scale]
    by_cases hc : j = c
    · subst hc
      grind
    · have := ech j (by omega)
      rw [this.1, this.2]
      grind
theorem ok_c (o : ElOk S a b g h n c ⟨r0, r1, []⟩) (h0 : ¬ atR r0 c ≠ 0) (h1 : ¬ atR r1 c ≠ 0) : ElOk S a b g h n (c + 1) (El.step ⟨r0, r1, []⟩ c) := by
  have ech : ∀ j, j < c → atR r0 j = 0 ∧ atR r1 j = 0 := o.ech
  have h0' : atR r0 c = 0 := by grind
  have h1' : atR r1 c = 0 := by grind
  rw [step_c h0 h1]
  refine ⟨o.l0, o.l1, o.eqv, fun j hj => ?_, o.s0, o.s1⟩
  by_cases hc : j = c
  · rw [hc]
    exact ⟨h0', h1'⟩
  · exact ech j (by omega)
theorem ok_d {p : Nat} (hS : 1 ≤ S) (o : ElOk S a b g h n c ⟨r0, r1, [p]⟩) (h1 : atR r1 c ≠ 0) : ElOk S a b g h n (c + 1) (El.step ⟨r0, r1, [p]⟩ c) := by
  have l0 : r0.length = n + 3 := o.l0
  have l1 : r1.length = n + 3 := o.l1
  have hl : r0.length = r1.length := by rw [l0, l1]
  have gp : 1 ≤ grown S 1 := grown_pos hS 1
  obtain ⟨e1, e2, e3⟩ : p < c ∧ atR r0 p = 1 ∧ ∀ j, j < c → atR r1 j = 0 := o.ech
  have s0 : SzR (grown S 1) r0 := o.s0
  have s1 : SzR (grown S 1) r1 := o.s1
  have hl2 : r0.length = (scaleL r1 (atR r1 c)).length := by rw [scaleL_len, hl]
  have z1 := e3 p e1
  rw [step_d h1]
  refine ⟨(lessL_len hl2).trans l0, scaleL_len.trans l1, fun Z => Iff.trans And.comm (Iff.trans (Iff.trans (pivot_zero h1 hl.symm) And.comm) (o.eqv Z)), ⟨e1, Nat.lt_succ_self _, ?_, ?_, ?_, ?_⟩, s0.less (s1.scale2 (s1.at gp _)) (s0.at gp _), s1.scale (s1.at gp _)⟩
  · rw [atR_less _ hl2, atR_scale, e2, z1]
    grind
  · rw [atR_less _ hl2, atR_scale]
    grind
  · rw [atR_scale, z1]
    grind
  · rw [atR_scale]
    grind
theorem ok_e {p : Nat} (o : ElOk S a b g h n c ⟨r0, r1, [p]⟩) (h1 : ¬ atR r1 c ≠ 0) : ElOk S a b g h n (c + 1) (El.step ⟨r0, r1, [p]⟩ c) := by
  obtain ⟨e1, e2, e3⟩ : p < c ∧ atR r0 p = 1 ∧ ∀ j, j < c → atR r1 j = 0 := o.ech
  have h1' : atR r1 c = 0 := by grind
  rw [step_e h1]
  refine ⟨o.l0, o.l1, o.eqv, ⟨Nat.lt_succ_of_lt e1, e2, fun j hj => ?_⟩, o.s0, o.s1⟩
  by_cases hc : j = c
  · rw [hc]
    exact h1'
  · exact e3 j (by omega)
theorem ok_f {p q : Nat} (o : ElOk S a b g h n c ⟨r0, r1, [p, q]⟩) : ElOk S a b g h n (c + 1) (El.step ⟨r0, r1, [p, q]⟩ c) := by
  obtain ⟨e1, e2, e3⟩ : p < q ∧ q < c ∧ atR r0 p = 1 ∧ atR r0 q = 0 ∧ atR r1 p = 0 ∧ atR r1 q = 1 := o.ech
  rw [step_f]
  exact ⟨o.l0, o.l1, o.eqv, ⟨e1, Nat.lt_succ_of_lt e2, e3⟩, o.s0, o.s1⟩
end
theorem El.step_ok {S : Nat} {a b : List Rat} {g h : Rat} {n c : Nat} {s : El} (hS : 1 ≤ S) (o : ElOk S a b g h n c s) : ElOk S a b g h n (c + 1) (s.step c) := by
  obtain ⟨r0, r1, ls⟩ := s
  rcases ls with _ | ⟨p, _ | ⟨q, _ | ⟨t, ls⟩⟩⟩
  · by_cases h0 : atR r0 c ≠ 0
    · exact ok_a hS o h0
    · by_cases h1 : atR r1 c ≠ 0
      · exact ok_b hS o h0 h1
      · exact ok_c o h0 h1
  · by_cases h1 : atR r1 c ≠ 0
    · exact ok_d hS o h1
    · exact ok_e o h1
  · exact ok_f o
  · exact False.elim o.ech
theorem wide0_len (a : List Rat) (g : Rat) : (wide0 a g).length = a.length + 3 := by
  unfold wide0
  rw [List.length_append, List.length_append]
  rfl
theorem wide1_len (a : List Rat) (g : Rat) : (wide1 a g).length = a.length + 3 := by
  unfold wide1
  rw [List.length_append, List.length_append]
  rfl
theorem wide0_sz {S : Nat} {a : List Rat} {g : Rat} (hS : 1 ≤ S) (ha : SzR S a) (hg : Sz S g) : SzR S (wide0 a g) := by
  intro q hq
  unfold wide0 at hq
  rcases List.mem_append.mp hq with hq | hq
  · rcases List.mem_append.mp hq with hq | hq
    · exact ha q hq
    · rw [List.mem_singleton.mp hq]; exact hg
  · rcases List.mem_cons.mp hq with e | hq
    · rw [e]; exact Sz.one hS
    · rw [List.mem_singleton.mp hq]; exact Sz.zero hS
theorem wide1_sz {S : Nat} {a : List Rat} {g : Rat} (hS : 1 ≤ S) (ha : SzR S a) (hg : Sz S g) : SzR S (wide1 a g) := by
  intro q hq
  unfold wide1 at hq
  rcases List.mem_append.mp hq with hq | hq
  · rcases List.mem_append.mp hq with hq | hq
    · exact ha q hq
    · rw [List.mem_singleton.mp hq]; exact hg
  · rcases List.mem_cons.mp hq with e | hq
    · rw [e]; exact Sz.zero hS
    · rw [List.mem_singleton.mp hq]; exact Sz.one hS
theorem elim_ok {S : Nat} {a b : List Rat} {g h : Rat} {n : Nat} (hS : 1 ≤ S) (la : a.length = n) (lb : b.length = n) (sa : SzR S a) (sb : SzR S b) (sg : Sz S g) (sh : Sz S h) : ∀ c, ElOk S a b g h n c (elim a b g h c)
  | 0 => ⟨by rw [← la]; exact wide0_len a g, by rw [← lb]; exact wide1_len b h, fun Z => Iff.rfl, fun j hj => absurd hj (Nat.not_lt_zero _), wide0_sz hS sa sg, wide1_sz hS sb sh⟩
  | c + 1 => El.step_ok hS (elim_ok hS la lb sa sb sg sh c)

/-! ### solution, bar -/
def El.rows (s : El) : List (List Rat) := [s.r0, s.r1]
def El.sol (s : El) (n : Nat) : Option (List Rat) :=
  if (s.rows.drop s.leads.length).any (fun r => atR r n != 0) = true then none
  else some ((s.rows.zip s.leads).foldl (fun f rc => f.set rc.2 (atR rc.1 n)) (List.replicate n 0))
def El.bar (s : El) (n : Nat) : Option (List Rat) := ((s.rows.drop s.leads.length).find? fun r => atR r n != 0).map fun r => r.drop (n + 1)
def solF (a b : List Rat) (g h : Rat) : Option (List Rat) := (elim a b g h a.length).sol a.length
def barF (a b : List Rat) (g h : Rat) : Option (List Rat) := (elim a b g h a.length).bar a.length
theorem wide0_res {a x : List Rat} {g : Rat} (hx : x.length = a.length) : dotP (wide0 a g) (x ++ [-1]) = dotP a x - g := by
  rw [dotP_res hx (by rw [wide0_len]; omega)]
  unfold wide0
  rw [List.append_assoc, dotP_left _ _ _ hx.symm]
  congr 1
  unfold atR
  rw [List.getD_eq_getElem?_getD, List.getElem?_append_right (Nat.le_refl _), Nat.sub_self]
  rfl
theorem wide1_res {a x : List Rat} {g : Rat} (hx : x.length = a.length) : dotP (wide1 a g) (x ++ [-1]) = dotP a x - g := by
  rw [dotP_res hx (by rw [wide1_len]; omega)]
  unfold wide1
  rw [List.append_assoc, dotP_left _ _ _ hx.symm]
  congr 1
  unfold atR
  rw [List.getD_eq_getElem?_getD, List.getElem?_append_right (Nat.le_refl _), Nat.sub_self]
  rfl
theorem any_false {rs : List (List Rat)} {n : Nat} (h : ¬ (rs.any (fun r => atR r n != 0) = true)) : ∀ r ∈ rs, atR r n = 0 := by
  intro r hr
  by_cases e : atR r n = 0
  · exact e
  · exact absurd (List.any_eq_true.mpr ⟨r, hr, (bne_iff_ne (a := atR r n) (b := 0)).mpr e⟩) h
theorem SzR.zeros {k : Nat} (hk : 1 ≤ k) (n : Nat) : SzR k (List.replicate n 0) := by
  intro q hq
  rw [(List.mem_replicate.mp hq).2]
  exact Sz.zero hk
theorem SzR.set {k : Nat} {r : List Rat} {v : Rat} (h : SzR k r) (hv : Sz k v) (p : Nat) : SzR k (r.set p v) := by
  intro q hq
  rcases List.mem_or_eq_of_mem_set hq with h1 | h1
  · exact h q h1
  · rw [h1]; exact hv
theorem SzR.mono {k m : Nat} {r : List Rat} (h : SzR k r) (hm : k ≤ m) : SzR m r := fun q hq => (h q hq).mono hm
theorem El.lead_le {S : Nat} {a b : List Rat} {g h : Rat} {n c : Nat} {s : El} (o : ElOk S a b g h n c s) : s.leads.length ≤ 2 := by
  obtain ⟨r0, r1, ls⟩ := s
  rcases ls with _ | ⟨p, _ | ⟨q, _ | ⟨t, ls⟩⟩⟩
  · exact Nat.zero_le _
  · exact Nat.le_succ _
  · exact Nat.le_refl _
  · exact False.elim o.ech
theorem grown_two {S k : Nat} (h : k ≤ 2) : grown S k ≤ 16 * S + 5 := by
  match k, h with
  | 0, _ => show S ≤ _; omega
  | 1, _ => show 4 * S + 1 ≤ _; omega
  | 2, _ => show 4 * (4 * S + 1) + 1 ≤ _; omega
  | k + 3, h => omega
section
variable {n : Nat} {r0 r1 : List Rat}
theorem sol_nil {x : List Rat} (e : El.sol ⟨r0, r1, []⟩ n = some x) : atR r0 n = 0 ∧ atR r1 n = 0 ∧ x = List.replicate n 0 := by
  unfold El.sol at e
  by_cases hany : ([r0, r1].any (fun r => atR r n != 0)) = true
  · rw [show (El.rows ⟨r0, r1, []⟩).drop ([] : List Nat).length = [r0, r1] from rfl, if_pos hany] at e
    cases e
  · rw [show (El.rows ⟨r0, r1, []⟩).drop ([] : List Nat).length = [r0, r1] from rfl, if_neg hany] at e
    have hz := any_false hany
    exact ⟨hz r0 List.mem_cons_self, hz r1 (List.mem_cons_of_mem _ List.mem_cons_self), (Option.some.inj e).symm⟩
theorem sol_one {x : List Rat} {p : Nat} (e : El.sol ⟨r0, r1, [p]⟩ n = some x) : atR r1 n = 0 ∧ x = (List.replicate n 0).set p (atR r0 n) := by
  unfold El.sol at e
  by_cases hany : ([r1].any (fun r => atR r n != 0)) = true
  · rw [show (El.rows ⟨r0, r1, [p]⟩).drop ([p] : List Nat).length = [r1] from rfl, if_pos hany] at e
    cases e
  · rw [show (El.rows ⟨r0, r1, [p]⟩).drop ([p] : List Nat).length = [r1] from rfl, if_neg hany] at e
    have hz := any_false hany
    exact ⟨hz r1 List.mem_cons_self, (Option.some.inj e).symm⟩
theorem sol_two {x : List Rat} {p q : Nat} (e : El.sol ⟨r0, r1, [p, q]⟩ n = some x) : x = ((List.replicate n 0).set p (atR r0 n)).set q (atR r1 n) := by
  unfold El.sol at e
  rw [show (El.rows ⟨r0, r1, [p, q]⟩).drop ([p, q] : List Nat).length = [] from rfl, if_neg (by simp)] at e
  exact (Option.some.inj e).symm
theorem bar_find {rs : List (List Rat)} (h : rs.any (fun r => atR r n != 0) = true) : ∃ r, (rs.find? fun r => atR r n != 0) = some r ∧ r ∈ rs ∧ atR r n ≠ 0 := by
  have hsome : (rs.find? fun r => atR r n != 0).isSome = true := by
    rw [List.find?_isSome]
    exact List.any_eq_true.mp h
  obtain ⟨r, hr⟩ := Option.isSome_iff_exists.mp hsome
  have hp : (atR r n != 0) = true := List.find?_some (p := fun r => atR r n != 0) hr
  exact ⟨r, hr, List.mem_of_find?_eq_some hr, (bne_iff_ne (a := atR r n) (b := 0)).mp hp⟩
theorem bar_of_none {s : El} (e : s.sol n = none) : ∃ r, s.bar n = some (r.drop (n + 1)) ∧ r ∈ s.rows.drop s.leads.length ∧ atR r n ≠ 0 := by
  unfold El.sol at e
  by_cases hany : (s.rows.drop s.leads.length).any (fun r => atR r n != 0) = true
  · obtain ⟨r, hr, hm, hn⟩ := bar_find hany
    refine ⟨r, ?_, hm, hn⟩
    unfold El.bar
    rw [hr]
    rfl
  · rw [if_neg hany] at e
    cases e
end
section
variable {S : Nat} {a b : List Rat} {g h : Rat} {n : Nat} {r0 r1 x : List Rat}
theorem solves_go {ls : List Nat} (hn : a.length = n) (hb : b.length = n) (o : ElOk S a b g h n n ⟨r0, r1, ls⟩) (hx : x.length = n) (e0 : dotP r0 x = atR r0 n) (e1 : dotP r1 x = atR r1 n) : dotP a x = g ∧ dotP b x = h := by
  have l0 : r0.length = n + 3 := o.l0
  have l1 : r1.length = n + 3 := o.l1
  have z0 : dotP r0 (x ++ [-1]) = 0 := by
    rw [dotP_res hx (by omega), e0]
    grind
  have z1 : dotP r1 (x ++ [-1]) = 0 := by
    rw [dotP_res hx (by omega), e1]
    grind
  obtain ⟨w0, w1⟩ := (o.eqv _).mp ⟨z0, z1⟩
  rw [wide0_res (by omega)] at w0
  rw [wide1_res (by omega)] at w1
  exact ⟨by grind, by grind⟩
theorem zlen (n : Nat) : (List.replicate n (0 : Rat)).length = n := List.length_replicate ..
/-- x with its size, of the row that is at its end -/
theorem solves_at {ls : List Nat} (hS : 1 ≤ S) (hn : a.length = n) (hb : b.length = n) (o : ElOk S a b g h n n ⟨r0, r1, ls⟩) (e : El.sol ⟨r0, r1, ls⟩ n = some x) :
    x.length = n ∧ SzR (grown S ls.length) x ∧ dotP a x = g ∧ dotP b x = h := by
  rcases ls with _ | ⟨p, _ | ⟨q, _ | ⟨t, ls⟩⟩⟩
  · obtain ⟨hr0, hr1, rfl⟩ := sol_nil e
    exact ⟨zlen n, SzR.zeros (grown_pos hS _) n, solves_go hn hb o (zlen n) (by rw [dotP_zeros, hr0]) (by rw [dotP_zeros, hr1])⟩
  · obtain ⟨hr1, rfl⟩ := sol_one e
    obtain ⟨h1, h2, h3⟩ : p < n ∧ atR r0 p = 1 ∧ ∀ j, j < n → atR r1 j = 0 := o.ech
    have h4 := h3 p h1
    have lx : ((List.replicate n 0).set p (atR r0 n)).length = n := by rw [List.length_set, zlen]
    have s0 : SzR (grown S 1) r0 := o.s0
    refine ⟨lx, (SzR.zeros (grown_pos hS _) n).set (s0.at (grown_pos hS _) _) p, solves_go hn hb o lx ?_ ?_⟩
    · rw [dotP_set _ _ _ _ (by rw [zlen]; exact h1), dotP_zeros, h2, atR_zeros]
      grind
    · rw [dotP_set _ _ _ _ (by rw [zlen]; exact h1), dotP_zeros, h4, atR_zeros, hr1]
      grind
  · have ex := sol_two e
    subst ex
    obtain ⟨h1, h2, h3, h4, h5, h6⟩ : p < q ∧ q < n ∧ atR r0 p = 1 ∧ atR r0 q = 0 ∧ atR r1 p = 0 ∧ atR r1 q = 1 := o.ech
    have lx : (((List.replicate n 0).set p (atR r0 n)).set q (atR r1 n)).length = n := by rw [List.length_set, List.length_set, zlen]
    have s0 : SzR (grown S 2) r0 := o.s0
    have s1 : SzR (grown S 2) r1 := o.s1
    refine ⟨lx, ((SzR.zeros (grown_pos hS _) n).set (s0.at (grown_pos hS _) _) p).set (s1.at (grown_pos hS _) _) q, solves_go hn hb o lx ?_ ?_⟩
    · rw [dotP_set _ _ _ _ (by rw [List.length_set, zlen]; exact h2), dotP_set _ _ _ _ (by rw [zlen]; omega), dotP_zeros, h3, h4, atR_zeros, atR_set_ne (by omega), atR_zeros]
      grind
    · rw [dotP_set _ _ _ _ (by rw [List.length_set, zlen]; exact h2), dotP_set _ _ _ _ (by rw [zlen]; omega), dotP_zeros, h5, h6, atR_zeros, atR_set_ne (by omega), atR_zeros]
      grind
  · exact False.elim o.ech
theorem none_at {ls : List Nat} {r : List Rat} (o : ElOk S a b g h n n ⟨r0, r1, ls⟩) (hm : r ∈ (El.rows ⟨r0, r1, ls⟩).drop ls.length) :
    r.length = n + 3 ∧ SzR (grown S ls.length) r ∧ (∀ j, j < n → atR r j = 0) ∧ ∀ Z, dotP r0 Z = 0 → dotP r1 Z = 0 → dotP r Z = 0 := by
  rcases ls with _ | ⟨p, _ | ⟨q, _ | ⟨t, ls⟩⟩⟩
  · have ech : ∀ j, j < n → atR r0 j = 0 ∧ atR r1 j = 0 := o.ech
    rcases List.mem_cons.mp (show r ∈ [r0, r1] from hm) with e | hm
    · rw [e]
      exact ⟨o.l0, o.s0, fun j hj => (ech j hj).1, fun Z z _ => z⟩
    · rw [List.mem_singleton.mp hm]
      exact ⟨o.l1, o.s1, fun j hj => (ech j hj).2, fun Z _ z => z⟩
  · obtain ⟨_, _, h3⟩ : p < n ∧ atR r0 p = 1 ∧ ∀ j, j < n → atR r1 j = 0 := o.ech
    rw [List.mem_singleton.mp (show r ∈ [r1] from hm)]
    exact ⟨o.l1, o.s1, h3, fun Z _ z => z⟩
  · exact absurd (show r ∈ [] from hm) (List.not_mem_nil)
  · exact False.elim o.ech
end
/-- a solution that is told solves, and is of bounded size -/
theorem sol_solves {S : Nat} {a b : List Rat} {g h : Rat} {x : List Rat} (hS : 1 ≤ S) (hl : b.length = a.length) (sa : SzR S a) (sb : SzR S b) (sg : Sz S g) (sh : Sz S h)
    (e : solF a b g h = some x) : x.length = a.length ∧ SzR (16 * S + 5) x ∧ dotP a x = g ∧ dotP b x = h := by
  have o := elim_ok hS rfl hl sa sb sg sh a.length
  obtain ⟨h1, h2, h3, h4⟩ := solves_at hS rfl hl o e
  exact ⟨h1, h2.mono (grown_two (El.lead_le o)), h3, h4⟩
/-- where no solution is told: a row of zeros with a goal that is not 0 -/
theorem sol_none {S : Nat} {a b : List Rat} {g h : Rat} (hS : 1 ≤ S) (hl : b.length = a.length) (sa : SzR S a) (sb : SzR S b) (sg : Sz S g) (sh : Sz S h)
    (e : solF a b g h = none) : ∃ r : List Rat, barF a b g h = some (r.drop (a.length + 1)) ∧ r.length = a.length + 3 ∧ SzR (16 * S + 5) r ∧ atR r a.length ≠ 0 ∧ (∀ j, j < a.length → atR r j = 0) ∧
      ∀ Z, dotP (wide0 a g) Z = 0 → dotP (wide1 b h) Z = 0 → dotP r Z = 0 := by
  have o := elim_ok hS rfl hl sa sb sg sh a.length
  obtain ⟨r, hb, hm, hn⟩ := bar_of_none e
  obtain ⟨h1, h2, h3, h4⟩ := none_at o hm
  refine ⟨r, hb, h1, h2.mono (grown_two (El.lead_le o)), hn, h3, fun Z w0 w1 => ?_⟩
  obtain ⟨z0, z1⟩ := (o.eqv Z).mpr ⟨w0, w1⟩
  exact h4 Z z0 z1
/-- where there is a solution, one is told -/
theorem sol_some {S : Nat} {a b : List Rat} {g h : Rat} {x : List Rat} (hS : 1 ≤ S) (hl : b.length = a.length) (sa : SzR S a) (sb : SzR S b) (sg : Sz S g) (sh : Sz S h)
    (hx : x.length = a.length) (e0 : dotP a x = g) (e1 : dotP b x = h) : solF a b g h ≠ none := by
  intro e
  obtain ⟨r, _, hr, _, hn, hz, hZ⟩ := sol_none hS hl sa sb sg sh e
  have z := hZ (x ++ [-1]) (by rw [wide0_res hx, e0]; grind) (by rw [wide1_res (by omega), e1]; grind)
  rw [dotP_res hx (by omega), dotP_zeroL x r fun j hj => hz j (by omega)] at z
  exact hn (by grind)
theorem drop_two {n : Nat} {r : List Rat} (h : r.length = n + 3) : r.drop (n + 1) = [atR r (n + 1), atR r (n + 2)] := by
  have h1 : n + 1 < r.length := by omega
  have h2 : n + 1 + 1 < r.length := by omega
  rw [List.drop_eq_getElem_cons h1, List.drop_eq_getElem_cons h2, List.drop_of_length_le (by omega)]
  unfold atR
  rw [List.getD_eq_getElem?_getD, List.getD_eq_getElem?_getD, List.getElem?_eq_getElem h1, List.getElem?_eq_getElem h2]
  rfl
theorem atR_append_left {a b : List Rat} {j : Nat} (h : j < a.length) : atR (a ++ b) j = atR a j := by
  unfold atR
  rw [List.getD_eq_getElem?_getD, List.getD_eq_getElem?_getD, List.getElem?_append_left h]
theorem dotP_unit {n j : Nat} {r : List Rat} (hj : j < n) : dotP r ((List.replicate n 0).set j 1) = atR r j := by
  rw [dotP_set _ _ _ _ (by rw [List.length_replicate]; exact hj), dotP_zeros, atR_zeros]
  grind
theorem dotP_tail {n : Nat} {r : List Rat} (h : r.length = n + 3) (u v w : Rat) : dotP (r.drop n) [u, v, w] = atR r n * u + (atR r (n + 1) * v + atR r (n + 2) * w) := by
  have h0 : n < r.length := by omega
  rw [List.drop_eq_getElem_cons h0, drop_two h]
  show r[n] * u + (atR r (n + 1) * v + (atR r (n + 2) * w + 0)) = _
  have e : r[n] = atR r n := by
    unfold atR
    rw [List.getD_eq_getElem?_getD, List.getElem?_eq_getElem h0]
    rfl
  rw [e]
  grind
theorem wide0_at (a : List Rat) (g : Rat) : atR (wide0 a g) a.length = g ∧ atR (wide0 a g) (a.length + 1) = 1 ∧ atR (wide0 a g) (a.length + 2) = 0 := by
  unfold wide0 atR
  rw [List.append_assoc]
  refine ⟨?_, ?_, ?_⟩
  · rw [List.getD_eq_getElem?_getD, List.getElem?_append_right (by omega), Nat.sub_self]; rfl
  · rw [List.getD_eq_getElem?_getD, List.getElem?_append_right (by omega), Nat.add_sub_cancel_left]; rfl
  · rw [List.getD_eq_getElem?_getD, List.getElem?_append_right (by omega), Nat.add_sub_cancel_left]; rfl
theorem wide1_at (a : List Rat) (g : Rat) : atR (wide1 a g) a.length = g ∧ atR (wide1 a g) (a.length + 1) = 0 ∧ atR (wide1 a g) (a.length + 2) = 1 := by
  unfold wide1 atR
  rw [List.append_assoc]
  refine ⟨?_, ?_, ?_⟩
  · rw [List.getD_eq_getElem?_getD, List.getElem?_append_right (by omega), Nat.sub_self]; rfl
  · rw [List.getD_eq_getElem?_getD, List.getElem?_append_right (by omega), Nat.add_sub_cancel_left]; rfl
  · rw [List.getD_eq_getElem?_getD, List.getElem?_append_right (by omega), Nat.add_sub_cancel_left]; rfl
theorem atR_wide0 {a : List Rat} {g : Rat} {j : Nat} (h : j < a.length) : atR (wide0 a g) j = atR a j := by
  unfold wide0
  rw [List.append_assoc, atR_append_left h]
theorem atR_wide1 {a : List Rat} {g : Rat} {j : Nat} (h : j < a.length) : atR (wide1 a g) j = atR a j := by
  unfold wide1
  rw [List.append_assoc, atR_append_left h]
/-- where no solution is told the bar is one -/
theorem bar_bars {S : Nat} {a b : List Rat} {g h : Rat} (hS : 1 ≤ S) (hl : b.length = a.length) (sa : SzR S a) (sb : SzR S b) (sg : Sz S g) (sh : Sz S h)
    (e : solF a b g h = none) : ∃ y0 y1 : Rat, barF a b g h = some [y0, y1] ∧ Sz (16 * S + 5) y0 ∧ Sz (16 * S + 5) y1 ∧ g * y0 + h * y1 ≠ 0 ∧ ∀ j, j < a.length → atR a j * y0 + atR b j * y1 = 0 := by
  obtain ⟨r, hb, hr, hs, hn, hz, hZ⟩ := sol_none hS hl sa sb sg sh e
  have dz : (List.replicate a.length (0 : Rat)).length = a.length := List.length_replicate ..
  refine ⟨atR r (a.length + 1), atR r (a.length + 2), by rw [hb, drop_two hr], hs.at (by omega) _, hs.at (by omega) _, ?_, fun j hj => ?_⟩
  · have w0 : dotP (wide0 a g) (List.replicate a.length 0 ++ [1, -g, -h]) = 0 := by
      rw [dotP_append, dotP_zeros, dz, dotP_tail (wide0_len a g), (wide0_at a g).1, (wide0_at a g).2.1, (wide0_at a g).2.2]
      grind
    have w1 : dotP (wide1 b h) (List.replicate a.length 0 ++ [1, -g, -h]) = 0 := by
      rw [dotP_append, dotP_zeros, dz, ← hl, dotP_tail (wide1_len b h), (wide1_at b h).1, (wide1_at b h).2.1, (wide1_at b h).2.2]
      grind
    have z := hZ _ w0 w1
    rw [dotP_append, dotP_zeros, dz, dotP_tail hr] at z
    intro q
    exact hn (by grind)
  · have du : ((List.replicate a.length (0 : Rat)).set j 1).length = a.length := by rw [List.length_set, dz]
    have w0 : dotP (wide0 a g) ((List.replicate a.length 0).set j 1 ++ [0, -atR a j, -atR b j]) = 0 := by
      rw [dotP_append, du, dotP_unit hj, dotP_tail (wide0_len a g), (wide0_at a g).1, (wide0_at a g).2.1, (wide0_at a g).2.2, atR_wide0 hj]
      grind
    have w1 : dotP (wide1 b h) ((List.replicate a.length 0).set j 1 ++ [0, -atR a j, -atR b j]) = 0 := by
      rw [dotP_append, du, dotP_unit hj, ← hl, dotP_tail (wide1_len b h), (wide1_at b h).1, (wide1_at b h).2.1, (wide1_at b h).2.2, atR_wide1 (by omega)]
      grind
    have z := hZ _ w0 w1
    rw [dotP_append, du, dotP_unit hj, dotP_tail hr, hz j hj] at z
    grind
end BR
end
section
set_option Elab.async false
set_option maxRecDepth 100000
namespace BR
open PySem PySem.Spec PyProof.Rows L2

/-! ### heaps: what a tuple is stays -/
structure Tk (H H' : Hp) : Prop where
  tup : ∀ a xs, H a = some (.tup xs) → H' a = some (.tup xs)
  frz : ∀ a o u, H a = some (.frz o u) → H' a = some (.frz o u)
theorem Tk.refl (H : Hp) : Tk H H := ⟨fun _ _ h => h, fun _ _ _ h => h⟩
theorem Tk.trans {H H1 H2 : Hp} (a : Tk H H1) (b : Tk H1 H2) : Tk H H2 := ⟨fun x xs h => b.tup x xs (a.tup x xs h), fun x o u h => b.frz x o u (a.frz x o u h)⟩
theorem Tk.same {H H' : Hp} (e : Same H H') : Tk H H' := ⟨fun _ _ h => e _ _ h, fun _ _ _ h => e _ _ h⟩
theorem Tk.new {H : Hp} {p : Addr} {o : HO} (h : H p = none) : Tk H (upd H p o) := .same fun b u e => by rw [upd_ne (ne_of_none e h)]; exact e
theorem Tk.lst {H : Hp} {p : Addr} {xs : List V} {o : HO} (h : H p = some (.lst xs)) : Tk H (upd H p o) :=
  ⟨fun a ys e => by rw [upd_ne (ne_of e h (fun z => nomatch z))]; exact e, fun a ob u e => by rw [upd_ne (ne_of e h (fun z => nomatch z))]; exact e⟩
theorem same_new {H : Hp} {p : Addr} {o : HO} (h : H p = none) : Same H (upd H p o) := fun b u e => by rw [upd_ne (ne_of_none e h)]; exact e
theorem sqT_tk {K : PySem.W.Frag} {H H' : Hp} {a : Addr} {xs : List V} (e : Tk H H') (h : SqT K H a xs) : SqT K H' a xs := by
  rcases h with (h | ⟨o, h⟩) | h
  · exact .inl (.inl (e.tup _ _ h))
  · exact .inl (.inr ⟨o, e.frz _ _ _ h⟩)
  · exact .inr h

/-! ### a test that is known -/
theorem iteB {b : Bool} {A B : Prop} (hb : b = true) (h : A) : if b = true then A else B := by
  rw [if_pos hb]
  exact h
theorem iteBF {b : Bool} {A B : Prop} (hb : b = false) (h : B) : if b = true then A else B := by
  rw [if_neg (by rw [hb]; exact Bool.false_ne_true)]
  exact h
theorem ndec {c : Prop} [Decidable c] (h : ¬ c) : (!decide c) = true := by
  rw [decide_eq_false h]
  rfl
theorem ndecF {c : Prop} [Decidable c] (h : c) : (!decide c) = false := by
  rw [decide_eq_true h]
  rfl

/-! ### fractions on the heap -/
section
variable {K : PySem.W.Frag} {H H' : Hp} {v : V} {vs : List V} {q : Rat} {qs : List Rat}
def Fr (K : PySem.W.Frag) (H : Hp) (v : V) (q : Rat) : Prop := ∃ a, v = .ref a ∧ SqT K H a [.int q.num, .int (q.den : Int)]
theorem Fr.tk (e : Tk H H') (h : Fr K H v q) : Fr K H' v q := by
  obtain ⟨a, rfl, s⟩ := h
  exact ⟨a, rfl, sqT_tk e s⟩
theorem Fr.same (e : Same H H') (h : Fr K H v q) : Fr K H' v q := h.tk (.same e)
structure Frs (K : PySem.W.Frag) (H : Hp) (vs : List V) (qs : List Rat) : Prop where
  len : vs.length = qs.length
  at' : ∀ (i : Nat) (v : V) (q : Rat), vs[i]? = some v → qs[i]? = some q → Fr K H v q
theorem Frs.tk (e : Tk H H') (h : Frs K H vs qs) : Frs K H' vs qs := ⟨h.len, fun i v q a b => (h.at' i v q a b).tk e⟩
theorem Frs.same (e : Same H H') (h : Frs K H vs qs) : Frs K H' vs qs := h.tk (.same e)
theorem Frs.nil : Frs K H [] [] := ⟨rfl, fun i v q a _ => by simp at a⟩
theorem Frs.get {i : Nat} (h : Frs K H vs qs) (hq : qs[i]? = some q) : ∃ v, vs[i]? = some v ∧ Fr K H v q := by
  have hi : i < vs.length := by
    rw [h.len]
    exact (List.getElem?_eq_some_iff.mp hq).1
  exact ⟨vs[i], List.getElem?_eq_getElem hi, h.at' i _ q (List.getElem?_eq_getElem hi) hq⟩
theorem Frs.getV {i : Nat} (h : Frs K H vs qs) (hv : vs[i]? = some v) : ∃ q, qs[i]? = some q ∧ Fr K H v q := by
  have hi : i < qs.length := by
    rw [← h.len]
    exact (List.getElem?_eq_some_iff.mp hv).1
  exact ⟨qs[i], List.getElem?_eq_getElem hi, h.at' i v _ hv (List.getElem?_eq_getElem hi)⟩
theorem Frs.cons (h : Fr K H v q) (t : Frs K H vs qs) : Frs K H (v :: vs) (q :: qs) := by
  refine ⟨by rw [List.length_cons, List.length_cons, t.len], fun i u p a b => ?_⟩
  cases i with
  | zero =>
    rw [← Option.some.inj (show some v = some u from a), ← Option.some.inj (show some q = some p from b)]
    exact h
  | succ i => exact t.at' i u p (by simpa using a) (by simpa using b)
theorem Frs.append {ws : List V} {ps : List Rat} (h : Frs K H vs qs) (t : Frs K H ws ps) : Frs K H (vs ++ ws) (qs ++ ps) := by
  refine ⟨by rw [List.length_append, List.length_append, h.len, t.len], fun i u p a b => ?_⟩
  by_cases hi : i < vs.length
  · rw [List.getElem?_append_left hi] at a
    rw [List.getElem?_append_left (h.len ▸ hi)] at b
    exact h.at' i u p a b
  · rw [List.getElem?_append_right (by omega)] at a
    rw [List.getElem?_append_right (by rw [← h.len]; omega), ← h.len] at b
    exact t.at' _ u p a b
theorem Frs.snoc (h : Frs K H vs qs) (t : Fr K H v q) : Frs K H (vs ++ [v]) (qs ++ [q]) := h.append (.cons t .nil)
theorem Frs.take (h : Frs K H vs qs) (n : Nat) : Frs K H (vs.take n) (qs.take n) := by
  refine ⟨by rw [List.length_take, List.length_take, h.len], fun i u p a b => ?_⟩
  rw [List.getElem?_take] at a b
  by_cases hi : i < n
  · rw [if_pos hi] at a b
    exact h.at' i u p a b
  · rw [if_neg hi] at a
    cases a
theorem Frs.drop (h : Frs K H vs qs) (n : Nat) : Frs K H (vs.drop n) (qs.drop n) := by
  refine ⟨by rw [List.length_drop, List.length_drop, h.len], fun i u p a b => ?_⟩
  rw [List.getElem?_drop] at a b
  exact h.at' _ u p a b
theorem Frs.set (h : Frs K H vs qs) (t : Fr K H v q) (n : Nat) : Frs K H (vs.set n v) (qs.set n q) := by
  refine ⟨by rw [List.length_set, List.length_set, h.len], fun i u p a b => ?_⟩
  by_cases hi : n = i
  · subst hi
    rw [List.getElem?_set_self'] at a b
    have hl := h.len
    cases ea : vs[n]? with
    | none => rw [ea] at a; simp at a
    | some x =>
      cases eb : qs[n]? with
      | none => rw [eb] at b; simp at b
      | some y =>
        rw [ea] at a
        rw [eb] at b
        simp at a b
        rw [← a, ← b]
        exact t
  · rw [List.getElem?_set_ne hi] at a b
    exact h.at' i u p a b
/-- a tuple, a list of fractions -/
def TupF (K : PySem.W.Frag) (H : Hp) (v : V) (qs : List Rat) : Prop := ∃ a vs, v = .ref a ∧ SqT K H a vs ∧ Frs K H vs qs
theorem TupF.tk (e : Tk H H') (h : TupF K H v qs) : TupF K H' v qs := by
  obtain ⟨a, vs, rfl, s, f⟩ := h
  exact ⟨a, vs, rfl, sqT_tk e s, f.tk e⟩
theorem TupF.same (e : Same H H') (h : TupF K H v qs) : TupF K H' v qs := h.tk (.same e)
/-- a list of fractions that may be written -/
def LstF (K : PySem.W.Frag) (H : Hp) (a : Addr) (qs : List Rat) : Prop := ∃ vs, H a = some (.lst vs) ∧ Frs K H vs qs
theorem LstF.same {a : Addr} (e : Same H H') (h : LstF K H a qs) : LstF K H' a qs := by
  obtain ⟨vs, s, f⟩ := h
  exact ⟨vs, e _ _ s, f.same e⟩

/-! ### == of data -/
def frD (q : Rat) : PyData := .tuple [.int q.num, .int (q.den : Int)]
theorem Fr.dp (h : Fr K H v q) : Dp K H v (frD q) := by
  obtain ⟨a, rfl, s⟩ := h
  exact .tup s (.cons (.int _) (.cons (.int _) .nil))
theorem frs_dpAll : ∀ {vs : List V} {qs : List Rat}, Frs K H vs qs → DpAll K H vs (qs.map frD)
  | [], [], _ => .nil
  | [], q :: qs, h => by have := h.len; simp at this
  | v :: vs, [], h => by have := h.len; simp at this
  | v :: vs, q :: qs, h => .cons (h.at' 0 v q rfl rfl).dp (frs_dpAll ⟨by have := h.len; simpa using this, fun i u p a b => h.at' (i + 1) u p (by simpa using a) (by simpa using b)⟩)
theorem frD_shaped (q : Rat) : SeqAt.shaped (frD q) = true := by
  unfold SeqAt.shaped frD
  simp [PyData.canLay0, PyData.canLayAll0, PyData.depth, PyData.depthAll]
theorem frD_eqv (p q : Rat) : PyData.eqv (frD p) (frD q) = decide (p = q) := by
  have h : PyData.eqv (frD p) (frD q) = (decide (p.num = q.num) && decide ((p.den : Int) = (q.den : Int))) := by
    unfold frD
    simp only [PyData.eqv, PyData.eqvAll, Bool.and_true]
    rfl
  rw [h]
  by_cases e : p = q
  · subst e
    simp
  · rw [decide_eq_false e]
    by_cases e1 : p.num = q.num
    · have e2 : ¬ (p.den : Int) = (q.den : Int) := fun z => e (Rat.ext e1 (Int.ofNat.inj z))
      rw [decide_eq_false e2, Bool.and_false]
    · rw [decide_eq_false e1, Bool.false_and]
end
end BR
end
section
set_option Elab.async false
set_option maxRecDepth 100000
namespace BR
open PySem PySem.Spec PyProof.Rows L2

/-! ### rules for fractions -/
def rEqF (K : PySem.W.Frag) : R2 := fun x y H Q => ∃ p q, Fr K H x p ∧ Fr K H y q ∧ Q (.bl (decide (p = q))) H
def rNeF (K : PySem.W.Frag) : R2 := fun x y H Q => ∃ p q, Fr K H x p ∧ Fr K H y q ∧ Q (.bl (!decide (p = q))) H
section
variable {X : Cx}
theorem atI_zero {α : Type} {x y : α} : atI [x, y] 0 = some x := atI_nat (xs := [x, y]) (j := 0) rfl
theorem atI_one {α : Type} {x y : α} : atI [x, y] 1 = some y := atI_nat (xs := [x, y]) (j := 1) rfl
/-- q[0], q[1] -/
theorem ix_fr : IxR X (fun x y H Q => ∃ q, Fr X.K H x q ∧ ((y = .int 0 ∧ Q (.int q.num) H) ∨ (y = .int 1 ∧ Q (.int (q.den : Int)) H))) := by
  intro value slice pins s σ H x y v u Q I rx ry h hs
  obtain ⟨q, ⟨a, rfl, hq⟩, h⟩ := h
  rcases h with ⟨rfl, h⟩ | ⟨rfl, h⟩
  · exact ix_tup value slice pins s σ H _ _ v u Q I rx ry ⟨a, _, 0, _, rfl, rfl, hq, atI_zero, h⟩ hs
  · exact ix_tup value slice pins s σ H _ _ v u Q I rx ry ⟨a, _, 1, _, rfl, rfl, hq, atI_one, h⟩ hs
theorem op_eqF (hr : Room 0 X.A) : OpR X (compareOp .Eq) (rEqF X.K) := by
  intro pins s σ H x y v u Q I rx ry h
  obtain ⟨p, q, hp, hq, k⟩ := h
  exact op_eqD hr.units pins s σ H x y v u Q I rx ry ⟨frD p, frD q, hp.dp, hq.dp, frD_shaped p, frD_shaped q, by rw [frD_eqv]; exact k⟩
theorem op_neF (hr : Room 0 X.A) : OpR X (compareOp .NotEq) (rNeF X.K) := by
  intro pins s σ H x y v u Q I rx ry h
  obtain ⟨p, q, hp, hq, k⟩ := h
  exact op_neD hr.units pins s σ H x y v u Q I rx ry ⟨frD p, frD q, hp.dp, hq.dp, frD_shaped p, frD_shaped q, by rw [frD_eqv]; exact k⟩
end

/-! ### the text by places -/
def topS (i : Nat) : Stmt := PySem.Challenge.pw_bondroots_k48_whole_hedged_debts.main.body.getD i (.Pass ⟨0, 0, 0, 0⟩)

/-- a def of the text stands at its name -/
def Has (K : PySem.W.Frag) (mg : Str → Option Value) (x : Str) (st : Stmt) : Prop := ∃ f fd, mg x = some (.ref f) ∧ Fun K x x st f fd
/-- .. and keeps a promise -/
structure Def (P : Program) (w : World) (K : PySem.W.Frag) (mg : Str → Option Value) (base : Heap) (x : Str) (k : Nat) (ps : List Str) (sp : Sp) : Prop where
  ex : ∃ f fd, mg x = some (.ref f) ∧ PySem.W.keepIn K (.ref f) = true ∧ Binds K fd ps [] ∧ FnOk P w K mg base CX0 k f fd ps sp
theorem pe_def {X : Cx} {k : Nat} {x : Str} {ps : List Str} {sp : Sp} {p pos : Pos} {e : Expr} {es : List Expr} {t : TA}
    (D : Def X.prog X.w X.K X.mg X.base x k ps sp) (hr : Room k X.A) (ha : PA X (e :: es) t) (hg : Gl X x := by rfl) (hdb : (x == ("__debug__" : Str)) = false := by decide)
    (he : starEach (e :: es) X.env = (false, eval e X.env) :: starEach es X.env := by rfl) (hpl : (backTo pos (starEach es X.env)).any (·.1) = false := by rfl) :
    PE X (.Call (.Name x p) (e :: es) [] pos) (tCall sp [] E0 t) := by
  obtain ⟨f, fd, hm, hk, hb, F⟩ := D.ex
  exact pe_call F hr hg hm hk hb .nil pass0 ha hdb he hpl

/-- what the top has left -/
structure Tx (P : Program) (K : PySem.W.Frag) (mg : Str → Option Value) (base : Heap) : Prop where
  tree : P.given.tree = none
  seer : base.NoSeer
  zero : ∃ z, mg "ZERO" = some (.ref z) ∧ ∀ H, SqT K H z [.int 0, .int 1]
  one : ∃ z, mg "ONE" = some (.ref z) ∧ ∀ H, SqT K H z [.int 1, .int 1]
  bAbs : mg "abs" = none
  bLen : mg "len" = none
  bTuple : mg "tuple" = none
  bList : mg "list" = none
  bAll : mg "all" = none
  bAny : mg "any" = none
  bMin : mg "min" = none
  bZip : mg "zip" = none
  bRange : mg "range" = none
  bEnumerate : mg "enumerate" = none
  bReversed : mg "reversed" = none
  bIsinstance : mg "isinstance" = none
  bInt : mg "int" = none
  bBool : mg "bool" = none
  divisor : Has K mg "divisor" (topS 3)
  fraction : Has K mg "fraction" (topS 4)
  isFraction : Has K mg "is_fraction" (topS 5)
  areFractions : Has K mg "are_fractions" (topS 6)
  plus : Has K mg "plus" (topS 7)
  minus : Has K mg "minus" (topS 8)
  times : Has K mg "times" (topS 9)
  over : Has K mg "over" (topS 10)
  sumAll : Has K mg "sum_all" (topS 11)
  dot : Has K mg "dot" (topS 12)
  trimmed : Has K mg "trimmed" (topS 14)
  valueAt : Has K mg "value_at" (topS 15)
  derivative : Has K mg "derivative" (topS 16)
  discount : Has K mg "discount" (topS 18)
  worth : Has K mg "worth" (topS 19)
  slope : Has K mg "slope" (topS 21)
  unit : Has K mg "unit" (topS 23)
  lessened : Has K mg "lessened" (topS 24)
  reduced : Has K mg "reduced" (topS 25)
  solution : Has K mg "solution" (topS 26)
  bar : Has K mg "bar" (topS 27)
  isSolution : Has K mg "is_solution" (topS 28)
  isBar : Has K mg "is_bar" (topS 29)
  hedge : Has K mg "hedge" (topS 30)
  lOpen : Has K mg "_law_open" (topS 32)
  lSpread : Has K mg "_law_spread" (topS 33)
  lTake : Has K mg "_law_take" (topS 34)
  lOneOf : Has K mg "_law_one_of" (topS 35)
  lGcd : Has K mg "_law_gcd" (topS 36)
  lFraction : Has K mg "_law_fraction" (topS 37)
  lDrawFraction : Has K mg "_law_draw_fraction" (topS 38)
  lDrawSmall : Has K mg "_law_draw_small" (topS 39)
  lDrawRow : Has K mg "_law_draw_row" (topS 40)
  lDrawRest : Has K mg "_law_draw_rest" (topS 41)
  lDrawFactor : Has K mg "_law_draw_factor_above" (topS 42)
  lSums : Has K mg "_law_sums" (topS 43)

section
variable {P : Program} {w : World} {K : PySem.W.Frag} {mg : Str → Option Value} {base : Heap}
theorem fr_zero {H : Hp} {z : Addr} (h : ∀ H, SqT K H z [.int 0, .int 1]) : Fr K H (.ref z) 0 := ⟨z, rfl, h H⟩
theorem fr_one {H : Hp} {z : Addr} (h : ∀ H, SqT K H z [.int 1, .int 1]) : Fr K H (.ref z) 1 := ⟨z, rfl, h H⟩

/-! ### divisor -/
def spDivisor : Sp := fun vs H Q _ => ∃ a b : Int, vs = [.int a, .int b] ∧ Q (.int (Int.gcd a b)) H
theorem scDivisor : FnScope ["a", "b"] ["a", "b"] (defScope (topS 3)) := ⟨rfl, rfl, rfl, by decide +kernel, rfl, by decide +kernel, by decide +kernel⟩
theorem abs_gcd (a : Int) : (if a < 0 then -a else a) = ((Int.gcd a 0 : Nat) : Int) := by
  rw [Int.gcd_zero]
  split <;> omega
theorem d_divisor (T : Tx P K mg base) : Def P w K mg base "divisor" 1 ["a", "b"] spDivisor := by
  obtain ⟨f, fd, hm, F⟩ := T.divisor
  refine ⟨f, fd, hm, F.kp, F.binds (ps := ["a", "b"]) fun _ _ _ _ _ _ us hl => match us, hl with | [_, _], _ => rfl, F.ok scDivisor (fun vs H Q E h => ?_) (fun cdv A outer s H vs Q E hr h => ?_)⟩
  · obtain ⟨a, b, rfl, _⟩ := h
    rfl
  · obtain ⟨a, b, rfl, k⟩ := h
    refine ⟨_, pss_cons (ps_while PassesOwn.never (pt_cmpR op_ne (pv 1) pe_int (nomark _))
        (pss_one (ps_par (i := 0) (j := 1) (by rfl) scDivisor.nd rfl rfl (by decide) rfl rfl (pa_cons (pv 1) (pa_cons (pe_op op_modN (pv 0) (pv 1)) pa_nil)) (by rfl))))
      (pss_one (ps_ret (pe_callB call_abs (by rfl) T.bAbs boot_abs (pa_cons (pv 0) pa_nil)))), ?_⟩
    refine while_by (fun σ H' => ∃ x y : Int, σ = [some (.int x), some (.int y)] ∧ H' = H ∧ Int.gcd x y = Int.gcd a b) (fun σ _ => match σ with | [_, some (.int y)] => y.natAbs | _ => 0) ⟨a, b, rfl, rfl, rfl⟩ ?_ ?_
    · rintro σ H' ⟨x, y, rfl, rfl, hg⟩
      refine ⟨_, rfl, rfl, _, rfl, ?_⟩
      by_cases hy : y = 0
      · subst hy
        refine iteNS rfl ?_
        refine ⟨_, rfl, _, rfl, ?_⟩
        rw [abs_gcd, hg]
        exact k
      · refine iteB (ndec fun z => hy (V.int.inj z)) ?_
        refine ⟨_, rfl, _, rfl, _, rfl, _, _, rfl, rfl, hy, _, _, rfl, ⟨y, x.fmod y, rfl, rfl, ?_⟩, ?_⟩
        · rw [gcd_fmod, hg]
        · exact fmod_lt hy
    · rintro σ H' Q Q' hQ ⟨v, e, h1, k, e2, h2⟩
      exact ⟨v, e, h1, k, e2, hQ _ _ h2⟩

/-! ### fraction -/
def spFraction (K : PySem.W.Frag) : Sp := fun vs H Q _ => ∃ t b : Int, vs = [.int t, .int b] ∧ b ≠ 0 ∧ ∀ v H', Same H H' → Fr K H' v (Rat.divInt t b) → Q v H'
theorem scFraction : FnScope ["top", "bottom", "common"] ["top", "bottom"] (defScope (topS 4)) := ⟨rfl, rfl, rfl, by decide +kernel, rfl, by decide +kernel, by decide +kernel⟩
theorem d_fraction (T : Tx P K mg base) : Def P w K mg base "fraction" 41 ["top", "bottom"] (spFraction K) := by
  obtain ⟨f, fd, hm, F⟩ := T.fraction
  refine ⟨f, fd, hm, F.kp, F.binds (ps := ["top", "bottom"]) fun _ _ _ _ _ _ us hl => match us, hl with | [_, _], _ => rfl, F.ok scFraction (fun vs H Q E h => ?_) (fun cdv A outer s H vs Q E hr h => ?_)⟩
  · obtain ⟨a, b, rfl, _⟩ := h
    rfl
  · obtain ⟨t, b, rfl, hb, k⟩ := h
    refine ⟨_, pss_cons (ps_set (i := 2) scFraction.nd rfl (.inl rfl) (pe_def (d_divisor T) (hr.mono (by decide)) (pa_cons (pv 0) (pa_cons (pv 1) pa_nil))))
      (pss_cons (ps_if (pt_cmpR op_lt (pv 1) pe_int (nomark _)) (pss_one (ps_set (i := 2) scFraction.nd rfl (.inl rfl) (pe_op op_sub pe_int (pv 2)))) pss_nil)
      (pss_one (ps_ret (pe_tup (pa_cons (pe_op (op_fdivS T.seer T.tree hr rfl rfl rfl) (pv 0) (pv 2)) (pa_cons (pe_op (op_fdivS T.seer T.tree hr rfl rfl rfl) (pv 1) (pv 2)) pa_nil)))))), ?_⟩
    refine ⟨_, rfl, _, rfl, t, b, rfl, _, rfl, _, _, rfl, rfl, _, rfl, ?_⟩
    have fin : ∀ c : Int, c = comm t b → (∀ p, H p = none → Q (.ref p) (upd H p (.tup [.int (t.fdiv c), .int (b.fdiv c)]))) := by
      rintro c rfl p np
      refine k _ _ (same_new np) ⟨p, rfl, .of ?_⟩
      rw [upd_same, frac_num hb, frac_den hb]
    have c0 : comm t b ≠ 0 := comm_ne hb
    by_cases hneg : b < 0
    · refine iteB (decide_eq_true hneg) ?_
      have e : 0 - ((Int.gcd t b : Nat) : Int) = comm t b := (if_pos hneg).symm
      refine ⟨_, rfl, _, _, rfl, rfl, _, rfl, _, rfl, _, _, rfl, rfl, by rw [e]; exact c0, _, rfl, _, rfl, _, _, rfl, rfl, by rw [e]; exact c0, by show 2 ≤ sizeLine; decide, fin _ e⟩
    · refine iteBF (decide_eq_false hneg) ?_
      have e : ((Int.gcd t b : Nat) : Int) = comm t b := (if_neg hneg).symm
      exact ⟨_, rfl, _, rfl, _, _, rfl, rfl, by rw [e]; exact c0, _, rfl, _, rfl, _, _, rfl, rfl, by rw [e]; exact c0, by show 2 ≤ sizeLine; decide, fin _ e⟩
end
end BR
end
section
set_option Elab.async false
set_option maxRecDepth 100000
namespace BR
open PySem PySem.Spec PyProof.Rows L2
section
variable {P : Program} {w : World} {K : PySem.W.Frag} {mg : Str → Option Value} {base : Heap}

/-- the most bits of what is multiplied -/
def BB : Nat := 400000
theorem mulOk {x y : Int} (hx : x.natAbs < 2 ^ BB) (hy : y.natAbs < 2 ^ BB) : CMulW x y := wide_mul hx hy (by decide) (by decide) (by decide)
theorem szn {q : Rat} (h : Sz BB q) : q.num.natAbs < 2 ^ BB := h.1
theorem szd {q : Rat} (h : Sz BB q) : ((q.den : Int)).natAbs < 2 ^ BB := den_bits h
abbrev px {b : Expr} : (∀ o i, subscripted b false o i = operate [o, i] (getItem o i)) → PlainIx b := id

/-! ### plus, minus, times, over -/
def spBin (K : PySem.W.Frag) (ok : Rat → Prop) (f : Rat → Rat → Rat) : Sp := fun vs H Q _ => ∃ x y p q, vs = [x, y] ∧ Fr K H x p ∧ Fr K H y q ∧ Sz BB p ∧ Sz BB q ∧ ok q ∧ ∀ v H', Same H H' → Fr K H' v (f p q) → Q v H'
abbrev anyQ : Rat → Prop := fun _ => True
abbrev neQ : Rat → Prop := fun q => q ≠ 0
theorem scPlus : FnScope ["a", "b"] ["a", "b"] (defScope (topS 7)) := ⟨rfl, rfl, rfl, by decide +kernel, rfl, by decide +kernel, by decide +kernel⟩
theorem scMinus : FnScope ["a", "b"] ["a", "b"] (defScope (topS 8)) := ⟨rfl, rfl, rfl, by decide +kernel, rfl, by decide +kernel, by decide +kernel⟩
theorem scTimes : FnScope ["a", "b"] ["a", "b"] (defScope (topS 9)) := ⟨rfl, rfl, rfl, by decide +kernel, rfl, by decide +kernel, by decide +kernel⟩
theorem scOver : FnScope ["a", "b"] ["a", "b"] (defScope (topS 10)) := ⟨rfl, rfl, rfl, by decide +kernel, rfl, by decide +kernel, by decide +kernel⟩
theorem d_plus (T : Tx P K mg base) : Def P w K mg base "plus" 42 ["a", "b"] (spBin K anyQ (· + ·)) := by
  obtain ⟨f, fd, hm, F⟩ := T.plus
  refine ⟨f, fd, hm, F.kp, F.binds (ps := ["a", "b"]) fun _ _ _ _ _ _ us hl => match us, hl with | [_, _], _ => rfl, F.ok scPlus (fun vs H Q E h => ?_) (fun cdv A outer s H vs Q E hr h => ?_)⟩
  · obtain ⟨x, y, p, q, rfl, _⟩ := h
    rfl
  · obtain ⟨x, y, p, q, rfl, hx, hy, sp, sq, _, k⟩ := h
    refine ⟨_, pss_one (ps_ret (pe_def (d_fraction T) (hr.mono (by decide))
      (pa_cons (pe_op op_add (pe_op op_mulW (pe_ix ix_fr (pv 0) pe_int fun _ _ => rfl) (pe_ix ix_fr (pv 1) pe_int fun _ _ => rfl)) (pe_op op_mulW (pe_ix ix_fr (pv 1) pe_int fun _ _ => rfl) (pe_ix ix_fr (pv 0) pe_int fun _ _ => rfl)))
      (pa_cons (pe_op op_mulW (pe_ix ix_fr (pv 0) pe_int fun _ _ => rfl) (pe_ix ix_fr (pv 1) pe_int fun _ _ => rfl)) pa_nil)))), ?_⟩
    refine ⟨_, rfl, p, hx, .inl ⟨rfl, _, rfl, q, hy, .inr ⟨rfl, _, _, rfl, rfl, mulOk (szn sp) (szd sq), _, rfl, q, hy, .inl ⟨rfl, _, rfl, p, hx, .inr ⟨rfl, _, _, rfl, rfl, mulOk (szn sq) (szd sp), _, _, rfl, rfl,
      _, rfl, p, hx, .inr ⟨rfl, _, rfl, q, hy, .inr ⟨rfl, _, _, rfl, rfl, mulOk (szd sp) (szd sq), _, _, rfl, mulden_ne p q, fun v H' e h => ?_⟩⟩⟩⟩⟩⟩⟩
    rw [add_frac] at h
    exact k v H' e h
theorem d_minus (T : Tx P K mg base) : Def P w K mg base "minus" 42 ["a", "b"] (spBin K anyQ (· - ·)) := by
  obtain ⟨f, fd, hm, F⟩ := T.minus
  refine ⟨f, fd, hm, F.kp, F.binds (ps := ["a", "b"]) fun _ _ _ _ _ _ us hl => match us, hl with | [_, _], _ => rfl, F.ok scMinus (fun vs H Q E h => ?_) (fun cdv A outer s H vs Q E hr h => ?_)⟩
  · obtain ⟨x, y, p, q, rfl, _⟩ := h
    rfl
  · obtain ⟨x, y, p, q, rfl, hx, hy, sp, sq, _, k⟩ := h
    refine ⟨_, pss_one (ps_ret (pe_def (d_fraction T) (hr.mono (by decide))
      (pa_cons (pe_op op_sub (pe_op op_mulW (pe_ix ix_fr (pv 0) pe_int fun _ _ => rfl) (pe_ix ix_fr (pv 1) pe_int fun _ _ => rfl)) (pe_op op_mulW (pe_ix ix_fr (pv 1) pe_int fun _ _ => rfl) (pe_ix ix_fr (pv 0) pe_int fun _ _ => rfl)))
      (pa_cons (pe_op op_mulW (pe_ix ix_fr (pv 0) pe_int fun _ _ => rfl) (pe_ix ix_fr (pv 1) pe_int fun _ _ => rfl)) pa_nil)))), ?_⟩
    refine ⟨_, rfl, p, hx, .inl ⟨rfl, _, rfl, q, hy, .inr ⟨rfl, _, _, rfl, rfl, mulOk (szn sp) (szd sq), _, rfl, q, hy, .inl ⟨rfl, _, rfl, p, hx, .inr ⟨rfl, _, _, rfl, rfl, mulOk (szn sq) (szd sp), _, _, rfl, rfl,
      _, rfl, p, hx, .inr ⟨rfl, _, rfl, q, hy, .inr ⟨rfl, _, _, rfl, rfl, mulOk (szd sp) (szd sq), _, _, rfl, mulden_ne p q, fun v H' e h => ?_⟩⟩⟩⟩⟩⟩⟩
    rw [sub_frac] at h
    exact k v H' e h
theorem d_times (T : Tx P K mg base) : Def P w K mg base "times" 42 ["a", "b"] (spBin K anyQ (· * ·)) := by
  obtain ⟨f, fd, hm, F⟩ := T.times
  refine ⟨f, fd, hm, F.kp, F.binds (ps := ["a", "b"]) fun _ _ _ _ _ _ us hl => match us, hl with | [_, _], _ => rfl, F.ok scTimes (fun vs H Q E h => ?_) (fun cdv A outer s H vs Q E hr h => ?_)⟩
  · obtain ⟨x, y, p, q, rfl, _⟩ := h
    rfl
  · obtain ⟨x, y, p, q, rfl, hx, hy, sp, sq, _, k⟩ := h
    refine ⟨_, pss_one (ps_ret (pe_def (d_fraction T) (hr.mono (by decide))
      (pa_cons (pe_op op_mulW (pe_ix ix_fr (pv 0) pe_int fun _ _ => rfl) (pe_ix ix_fr (pv 1) pe_int fun _ _ => rfl))
      (pa_cons (pe_op op_mulW (pe_ix ix_fr (pv 0) pe_int fun _ _ => rfl) (pe_ix ix_fr (pv 1) pe_int fun _ _ => rfl)) pa_nil)))), ?_⟩
    refine ⟨_, rfl, p, hx, .inl ⟨rfl, _, rfl, q, hy, .inl ⟨rfl, _, _, rfl, rfl, mulOk (szn sp) (szn sq),
      _, rfl, p, hx, .inr ⟨rfl, _, rfl, q, hy, .inr ⟨rfl, _, _, rfl, rfl, mulOk (szd sp) (szd sq), _, _, rfl, mulden_ne p q, fun v H' e h => ?_⟩⟩⟩⟩⟩
    rw [mul_frac] at h
    exact k v H' e h
theorem d_over (T : Tx P K mg base) : Def P w K mg base "over" 42 ["a", "b"] (spBin K neQ (· / ·)) := by
  obtain ⟨f, fd, hm, F⟩ := T.over
  refine ⟨f, fd, hm, F.kp, F.binds (ps := ["a", "b"]) fun _ _ _ _ _ _ us hl => match us, hl with | [_, _], _ => rfl, F.ok scOver (fun vs H Q E h => ?_) (fun cdv A outer s H vs Q E hr h => ?_)⟩
  · obtain ⟨x, y, p, q, rfl, _⟩ := h
    rfl
  · obtain ⟨x, y, p, q, rfl, hx, hy, sp, sq, q0, k⟩ := h
    refine ⟨_, pss_one (ps_ret (pe_def (d_fraction T) (hr.mono (by decide))
      (pa_cons (pe_op op_mulW (pe_ix ix_fr (pv 0) pe_int fun _ _ => rfl) (pe_ix ix_fr (pv 1) pe_int fun _ _ => rfl))
      (pa_cons (pe_op op_mulW (pe_ix ix_fr (pv 0) pe_int fun _ _ => rfl) (pe_ix ix_fr (pv 1) pe_int fun _ _ => rfl)) pa_nil)))), ?_⟩
    refine ⟨_, rfl, p, hx, .inl ⟨rfl, _, rfl, q, hy, .inr ⟨rfl, _, _, rfl, rfl, mulOk (szn sp) (szd sq),
      _, rfl, p, hx, .inr ⟨rfl, _, rfl, q, hy, .inl ⟨rfl, _, _, rfl, rfl, mulOk (szd sp) (szn sq), _, _, rfl, divden_ne p q0, fun v H' e h => ?_⟩⟩⟩⟩⟩
    rw [div_frac] at h
    exact k v H' e h
end
end BR
end
section
set_option Elab.async false
set_option maxRecDepth 100000
set_option maxHeartbeats 1000000
namespace BR
open PySem PySem.Spec PyProof.Rows L2

/-! ### what is walked within a zip: a list or a tuple -/
inductive Kd where
  | l | t
def kSeq : Kd → Heap → Addr → Array Value → Prop
  | .l, h, a, xs => h.IsList a xs
  | .t, h, a, xs => h.IsTuple a xs
def kIt : Kd → Heap → Addr → Addr → Nat → Prop
  | .l, h, it, a, i => h.IsListIter it a i
  | .t, h, it, a, i => h.IsTupleIter it a i
def kObj : Kd → Addr → Obj
  | .l, a => { cls := .type "list_iterator", data := .fields #[.ref a, .int 0 0] }
  | .t, a => { cls := .type "tuple_iterator", data := .fields #[.ref a, .int 0 0] }
theorem kDraws {prog : Program} {w : World} {A : Around} (hh : A.handled = none) (k : Kd) (it a : Addr) (hne : a ≠ it) (items : Array Value) :
    Draws prog w A it [it, a] items.size (fun i v => items[i]? = some v) (fun i h => kIt k h it a i ∧ kSeq k h a items) := by
  cases k with
  | l => exact Draws.list hh it a hne items
  | t => exact Draws.tuple hh it a hne items
theorem kBegins (k : Kd) (a : Addr) (items : Array Value) : Begins (.ref a) (kObj k a) fun h => kSeq k h a items := by
  cases k with
  | l => exact begins_list a items
  | t => exact begins_tuple a items
theorem kIt_zero {k : Kd} {h : Heap} {it a : Addr} (e : h.get? it = some (kObj k a)) : kIt k h it a 0 := by
  cases k with
  | l => exact ⟨_, e, rfl, rfl⟩
  | t => exact ⟨_, e, rfl, rfl⟩
theorem kIt_at {k : Kd} {h h' : Heap} {it a : Addr} {i : Nat} (st : kIt k h it a i) (e : ∀ o, h.get? it = some o → h'.get? it = some o) : kIt k h' it a i := by
  cases k with
  | l => exact Heap.IsListIter.at st e
  | t => exact Heap.IsTupleIter.at st e
theorem kIt_obj {k : Kd} {h : Heap} {it a : Addr} {i : Nat} (st : kIt k h it a i) : ∃ o, h.get? it = some o ∧ ∀ v, o.data ≠ .cell v := by
  cases k with
  | l =>
    obtain ⟨o, e, _, d⟩ := st
    exact ⟨o, e, fun v q => by rw [d] at q; cases q⟩
  | t =>
    obtain ⟨o, e, _, d⟩ := st
    exact ⟨o, e, fun v q => by rw [d] at q; cases q⟩
def SqK (K : PySem.W.Frag) (H : Hp) : Kd → Addr → List V → Prop
  | .l, a, xs => SqL K H a xs
  | .t, a, xs => SqT K H a xs
section
variable {X : Cx} {pins : List (Addr × Obj)} {σ : L2.St} {H : Hp} {s : Shared} {a : Addr} {xs ys : List V} {k : Kd}
theorem sqK_get (I : Inv X pins σ H s) (h : SqK X.K H k a xs) : ∃ its : List Value, Vals xs its ∧ kSeq k s.heap a its.toArray ∧ a < s.heap.objs.size := by
  cases k with
  | l =>
    obtain ⟨its, r, p, _⟩ := I.list h
    exact ⟨its, r, p.isList, p.lt⟩
  | t =>
    obtain ⟨its, r, p, _⟩ := I.tuple h
    exact ⟨its, r, p, p.lt⟩
theorem sqK_inj (I : Inv X pins σ H s) (h : SqK X.K H k a xs) (h' : SqK X.K H k a ys) : xs = ys := by
  cases k with
  | l => exact I.list_inj h h'
  | t => exact I.tuple_inj h h'
end

/-! ### zip(.., strict=True): one step -/
abbrev IsZipS (h : Heap) (z TI TO : Addr) (f0 : Value) : Prop :=
  h.get? z = some { cls := .type "zip", dict := none, data := .fields #[f0, .bool false, .bool true, .ref TI, .ref TO], slots := #[] }
section
variable {prog : Program} {w : World} {A : Around} {E : Value → Shared → Prop} {s : Shared}
theorem noe_item {it : Addr} {fp : List Addr} {n i : Nat} {R : Nat → Value → Prop} {St : Nat → Heap → Prop} {Q : Option Value → Shared → Prop} (D : Draws prog w A it fp n R St) (hlt : i < n) (st : St i s.heap)
    (hQ : ∀ x h' tk, R i x → St (i + 1) h' → Heap.SameBut it s.heap h' → Q (some x) { s with heap := h', toks := tk }) : wpAny (model prog w) A (Builtin.SmallTypes.nextOrEnd (.ref it)) Q E s := by
  unfold Builtin.SmallTypes.nextOrEnd
  exact wpAny_bind (wpAny_attempt (D.item i s _ _ hlt st fun x h' tk a b c => wpAny_pure (hQ x h' tk a b c)))
theorem noe_end {it : Addr} {fp : List Addr} {n : Nat} {R : Nat → Value → Prop} {St : Nat → Heap → Prop} {Q : Option Value → Shared → Prop} (D : Draws prog w A it fp n R St) (st : St n s.heap)
    (hQ : ∀ h', Heap.ExtBut it s.heap h' → Q none { s with heap := h' }) : wpAny (model prog w) A (Builtin.SmallTypes.nextOrEnd (.ref it)) Q E s := by
  unfold Builtin.SmallTypes.nextOrEnd
  refine wpAny_bind (wpAny_attempt (D.done s _ _ st fun h' e a he => ?_))
  obtain ⟨o, ho, hc⟩ := he
  exact wpAny_bind (wpAny_isInstance (T := "StopIteration") (b := true) ⟨o, ho, hc⟩ isSubtype_stop (wpAny_pure (hQ h' a)))

variable {z TI TO i1 i2 : Addr} {fp1 fp2 : List Addr} {n1 n2 i : Nat} {P1 P2 : Nat → Value → Prop} {St1 St2 : Nat → Heap → Prop} {a1 a2 : Value}
theorem zipS_next_item {Q : Value → Shared → Prop} (S : ZipSep2 z TI TO i1 i2 fp1 fp2) (D1 : Draws prog w A i1 fp1 n1 P1 St1) (D2 : Draws prog w A i2 fp2 n2 P2 St2)
    (hz : IsZipS s.heap z TI TO .none) (hTI : IsTupOf2 s.heap TI (.ref i1) (.ref i2)) (hTO : IsTupOf2 s.heap TO a1 a2) (st1 : St1 i s.heap) (st2 : St2 i s.heap) (hlt1 : i < n1) (hlt2 : i < n2)
    (hQ : ∀ x1 x2 h' tk, P1 i x1 → P2 i x2 → IsZipS h' z TI TO (rawInt s.heap.objs.size) → IsTupOf2 h' TO x1 x2 → St1 (i + 1) h' → St2 (i + 1) h' → IsTupOf2 h' s.heap.objs.size x1 x2 → h'.objs.size = s.heap.objs.size + 1 →
      (∀ c o, c ≠ z → c ≠ TO → c ≠ i1 → c ≠ i2 → s.heap.get? c = some o → h'.get? c = some o) → Q (.ref s.heap.objs.size) { s with heap := h', toks := tk }) :
    wpAny (model prog w) A (Builtin.«zip.__next__» ⟨[.ref z], []⟩) (fun fin s' => ∃ v, fin = .done (.ret v) ∧ Q v s') E s := by
  obtain ⟨hp, g, d, t0, os⟩ := s
  show wpAny _ _ (field (.ref z) 2 >>= _) _ _ _
  refine wpAny_bind (wpAny_field hz rfl (x := .bool true) rfl ?_)
  show wpAny _ _ (field (.ref z) 3 >>= _) _ _ _
  refine wpAny_bind (wpAny_field hz rfl (x := .ref TI) rfl (wpAny_bind (wpAny_seqItems hTI rfl ?_)))
  show wpAny _ _ (Builtin.SmallTypes.ownedTupleIsFree (.ref z) >>= _) _ _ _
  refine wpAny_bind ?_
  unfold Builtin.SmallTypes.ownedTupleIsFree
  refine wpAny_bind (wpAny_field hz rfl (x := .none) rfl (wpAny_pure ?_))
  simp only [if_true]
  refine wpAny_bind (wpAny_rule (wpAny_bind (wpAny_field hz rfl (x := .ref TO) rfl ?_)))
  refine wpAny_bind (wpAny_setField_rec hz (by simp) fun g0 hz0 hs0 => ?_)
  have hz0 : IsZipS g0 z TI TO .ellipsis := hz0
  have hs0 : Heap.SameBut z hp g0 := hs0
  refine wpAny_bind ?_
  simp only [List.zipIdx_cons, List.zipIdx_nil, List.forIn_cons, List.forIn_nil]
  refine wpAny_bind (wpAny_bind (wpAny_onRaise ?_))
  show wpAny _ _ (Builtin.SmallTypes.nextOrEnd (.ref i1)) _ _ ⟨g0, g, d, t0, os⟩
  refine noe_item D1 hlt1 (D1.over st1 hs0 S.zf1) fun x1 p1 t1 hx1 sn1 hp1 => ?_
  have hp1 : Heap.SameBut i1 g0 p1 := hp1
  have hU1 : IsTupOf2 p1 TO a1 a2 := hp1.extBut _ _ S.Ti1 (hs0.extBut _ _ S.TOz hTO)
  refine wpAny_bind (wpAny_seqItems (s := ⟨p1, g, d, t1, os⟩) hU1 rfl ?_)
  refine wpAny_bind (updateSeq_IsTupOf2 (s := ⟨p1, g, d, t1, os⟩) hU1 fun g1 hT1 hs1 => ?_)
  have hT1 : IsTupOf2 g1 TO x1 a2 := hT1
  have hs1 : Heap.SameBut TO p1 g1 := hs1
  refine wpAny_bind (wpAny_letGo (wpAny_pure ?_))
  refine wpAny_bind (wpAny_bind (wpAny_onRaise ?_))
  show wpAny _ _ (Builtin.SmallTypes.nextOrEnd (.ref i2)) _ _ ⟨g1, g, d, t1, os⟩
  refine noe_item D2 hlt2 (D2.over (D2.over (D2.over st2 hs0 S.zf2) hp1 S.sep1_2) hs1 S.Tf2) fun x2 p2 t2 hx2 sn2 hp2 => ?_
  have hp2 : Heap.SameBut i2 g1 p2 := hp2
  have hU2 : IsTupOf2 p2 TO x1 a2 := hp2.extBut _ _ S.Ti2 hT1
  refine wpAny_bind (wpAny_seqItems (s := ⟨p2, g, d, t2, os⟩) hU2 rfl ?_)
  refine wpAny_bind (updateSeq_IsTupOf2 (s := ⟨p2, g, d, t2, os⟩) hU2 fun g2 hT2 hs2 => ?_)
  have hT2 : IsTupOf2 g2 TO x1 x2 := hT2
  have hs2 : Heap.SameBut TO p2 g2 := hs2
  refine wpAny_bind (wpAny_letGo (wpAny_pure (wpAny_pure ?_)))
  refine wpAny_bind (wpAny_seqItems (s := ⟨g2, g, d, t2, os⟩) hT2 rfl (wpAny_bind (wpAny_newTuple ?_)))
  have hsz : g2.objs.size = hp.objs.size := by rw [hs2.1, hp2.1, hs1.1, hp1.1, hs0.1]
  have hzz : IsZipS g2 z TI TO .ellipsis := hs2.extBut _ _ S.TOz.symm (hp2.extBut _ _ S.zi2 (hs1.extBut _ _ S.TOz.symm (hp1.extBut _ _ S.zi1 hz0)))
  have hj1 : St1 (i + 1) g2 := D1.over (D1.over (D1.over sn1 hs1 S.Tf1) hp2 S.sep2_1) hs2 S.Tf1
  have hj2 : St2 (i + 1) g2 := D2.over sn2 hs2 S.Tf2
  have hzlt : z < g2.objs.size := Heap.lt_size hzz
  show wpAny _ _ (Builtin.SmallTypes.ownedTupleHandOut (.ref z) (.ref g2.objs.size) >>= _) _ _ ⟨g2.push { cls := .type "tuple", data := .seq #[x1, x2] }, g, d, t2, os⟩
  refine wpAny_bind ?_
  unfold Builtin.SmallTypes.ownedTupleHandOut
  have hz6 : IsZipS (g2.push { cls := .type "tuple", data := .seq #[x1, x2] }) z TI TO .ellipsis := Heap.get?_push_of_some _ hzz
  refine wpAny_bind (wpAny_setField_rec hz6 (by simp) fun h7 hz7 hs7 => ?_)
  have hz7 : IsZipS h7 z TI TO (rawInt g2.objs.size) := hz7
  refine wpAny_setField_rec hz7 (by simp) fun h8 hz8 hs8 => ?_
  have hz8 : IsZipS h8 z TI TO (rawInt g2.objs.size) := hz8
  have hs7 : Heap.SameBut z (g2.push { cls := .type "tuple", data := .seq #[x1, x2] }) h7 := hs7
  have hs8 : Heap.SameBut z h7 h8 := hs8
  have up : ∀ c o, c ≠ z → g2.get? c = some o → h8.get? c = some o := fun c o c1 e => hs8.extBut _ _ c1 (hs7.extBut _ _ c1 (Heap.get?_push_of_some _ e))
  have hT8 : IsTupOf2 h8 g2.objs.size x1 x2 := hs8.extBut _ _ (Nat.ne_of_gt hzlt) (hs7.extBut _ _ (Nat.ne_of_gt hzlt) (Heap.get?_push_size _ rfl))
  have hl8 : h8.objs.size = g2.objs.size + 1 := by rw [hs8.1, hs7.1, Heap.size_push]
  rw [hsz] at hz8 hT8 hl8
  refine wpAny_pure ⟨_, rfl, ?_⟩
  show Q (.ref g2.objs.size) ⟨h8, g, d, t2, os⟩
  rw [hsz]
  exact hQ x1 x2 h8 t2 hx1 hx2 hz8 (up _ _ S.TOz hT2) (D1.frame _ _ _ hj1 fun b hb o e => up b o (fun q => S.zf1 (q ▸ hb)) e) (D2.frame _ _ _ hj2 fun b hb o e => up b o (fun q => S.zf2 (q ▸ hb)) e) hT8 hl8
    fun c o cz cT c1 c2 e => up c o cz (hs2.extBut _ _ cT (hp2.extBut _ _ c2 (hs1.extBut _ _ cT (hp1.extBut _ _ c1 (hs0.extBut _ _ cz e)))))
theorem zipS_next_end {Q : PySem.Fin → Shared → Prop} (hh : A.handled = none) (S : ZipSep2 z TI TO i1 i2 fp1 fp2) (D1 : Draws prog w A i1 fp1 n1 P1 St1) (D2 : Draws prog w A i2 fp2 n2 P2 St2)
    (hz : IsZipS s.heap z TI TO .none) (hTI : IsTupOf2 s.heap TI (.ref i1) (.ref i2)) (hTO : IsTupOf2 s.heap TO a1 a2) (st1 : St1 n1 s.heap) (st2 : St2 n2 s.heap)
    (hE : ∀ h' tk e, (∀ c o, c ≠ z → c ≠ TO → c ≠ i1 → c ≠ i2 → s.heap.get? c = some o → h'.get? c = some o) → (∃ o, h'.get? e = some o ∧ o.cls = .type "StopIteration") → E (.ref e) { s with heap := h', toks := tk }) :
    wpAny (model prog w) A (Builtin.«zip.__next__» ⟨[.ref z], []⟩) Q E s := by
  obtain ⟨hp, g, d, t0, os⟩ := s
  show wpAny _ _ (field (.ref z) 2 >>= _) _ _ _
  refine wpAny_bind (wpAny_field hz rfl (x := .bool true) rfl ?_)
  show wpAny _ _ (field (.ref z) 3 >>= _) _ _ _
  refine wpAny_bind (wpAny_field hz rfl (x := .ref TI) rfl (wpAny_bind (wpAny_seqItems hTI rfl ?_)))
  show wpAny _ _ (Builtin.SmallTypes.ownedTupleIsFree (.ref z) >>= _) _ _ _
  refine wpAny_bind ?_
  unfold Builtin.SmallTypes.ownedTupleIsFree
  refine wpAny_bind (wpAny_field hz rfl (x := .none) rfl (wpAny_pure ?_))
  simp only [if_true]
  refine wpAny_bind (wpAny_rule (wpAny_bind (wpAny_field hz rfl (x := .ref TO) rfl ?_)))
  refine wpAny_bind (wpAny_setField_rec hz (by simp) fun g0 hz0 hs0 => ?_)
  have hz0 : IsZipS g0 z TI TO .ellipsis := hz0
  have hs0 : Heap.SameBut z hp g0 := hs0
  refine wpAny_bind ?_
  simp only [List.zipIdx_cons, List.zipIdx_nil, List.forIn_cons, List.forIn_nil]
  refine wpAny_bind (wpAny_bind (wpAny_onRaise ?_))
  show wpAny _ _ (Builtin.SmallTypes.nextOrEnd (.ref i1)) _ _ ⟨g0, g, d, t0, os⟩
  refine noe_end D1 (D1.over st1 hs0 S.zf1) fun p1 hp1 => ?_
  have hp1 : Heap.ExtBut i1 g0 p1 := hp1
  have hz1 : IsZipS p1 z TI TO .ellipsis := hp1 _ _ S.zi1 hz0
  refine wpAny_bind (wpAny_setField_rec (s := ⟨p1, g, d, t0, os⟩) hz1 (by simp) fun g1 _ hs1 => ?_)
  have hs1 : Heap.SameBut z p1 g1 := hs1
  refine wpAny_bind ?_
  show wpAny _ _ (forIn ([Value.ref i2].zipIdx 1) PUnit.unit _ >>= _) _ _ ⟨g1, g, d, t0, os⟩
  simp only [List.zipIdx_cons, List.zipIdx_nil, List.forIn_cons, List.forIn_nil]
  refine wpAny_bind (wpAny_bind (wpAny_bind (noe_end D2 (D2.over (D2.frame _ _ _ (D2.over st2 hs0 S.zf2) fun b hb o e => hp1 b o (fun q => S.sep1_2 (q ▸ hb)) e) hs1 S.zf2) fun p2 hp2 => ?_)))
  have hp2 : Heap.ExtBut i2 g1 p2 := hp2
  rw [if_neg (by simp)]
  refine wpAny_pure (wpAny_pure (wpAny_bind (wpAny_rule ?_)))
  show wpAny _ _ (do raiseNew (← newExc (.type "StopIteration") []) : Sem PySem.Fin) _ _ ⟨p2, g, d, t0, os⟩
  refine DVw.raise_stop hh fun h' e oe hk he hc => ?_
  exact hE h' t0 e (fun c o cz cT c1 c2 q => hk _ _ (hp2 _ _ c2 (hs1.extBut _ _ cz (hp1 _ _ c1 (hs0.extBut _ _ cz q))))) ⟨oe, he, hc⟩

theorem pyNext_zipS_item {Q : Option Value → Shared → Prop} (S : ZipSep2 z TI TO i1 i2 fp1 fp2) (D1 : Draws prog w A.in1 i1 fp1 n1 P1 St1) (D2 : Draws prog w A.in1 i2 fp2 n2 P2 St2)
    (hz : IsZipS s.heap z TI TO .none) (hTI : IsTupOf2 s.heap TI (.ref i1) (.ref i2)) (hTO : IsTupOf2 s.heap TO a1 a2) (st1 : St1 i s.heap) (st2 : St2 i s.heap) (hlt1 : i < n1) (hlt2 : i < n2)
    (hQ : ∀ x1 x2 h' tk, P1 i x1 → P2 i x2 → IsZipS h' z TI TO (rawInt s.heap.objs.size) → IsTupOf2 h' TO x1 x2 → St1 (i + 1) h' → St2 (i + 1) h' → IsTupOf2 h' s.heap.objs.size x1 x2 → h'.objs.size = s.heap.objs.size + 1 →
      (∀ c o, c ≠ z → c ≠ TO → c ≠ i1 → c ≠ i2 → s.heap.get? c = some o → h'.get? c = some o) → Q (some (.ref s.heap.objs.size)) { s with heap := h', toks := tk }) :
    wpAny (model prog w) A (pyNext (.ref z)) Q E s := by
  have hT : s.TypeIs (.ref z) "zip" := ⟨_, hz, rfl⟩
  unfold pyNext
  refine wpAny_bind (wpAny_attempt (wpAny_callSpecial?_slot (name := Str.ofString "__next__") hT F.slot_zip_next (wpAny_call_entry F.slot_zip_next hT F.entry_zip_next ?_ (F.args_zip_next_1 _))))
  exact zipS_next_item S D1 D2 hz hTI hTO st1 st2 hlt1 hlt2 fun x1 x2 h' tk y1 y2 b1 b2 d1 d2 b5 b6 b7 => wpAny_pure (hQ x1 x2 h' tk y1 y2 b1 b2 d1 d2 b5 b6 b7)
theorem pyNext_zipS_end {Q : Option Value → Shared → Prop} (hh : A.handled = none) (S : ZipSep2 z TI TO i1 i2 fp1 fp2) (D1 : Draws prog w A.in1 i1 fp1 n1 P1 St1) (D2 : Draws prog w A.in1 i2 fp2 n2 P2 St2)
    (hz : IsZipS s.heap z TI TO .none) (hTI : IsTupOf2 s.heap TI (.ref i1) (.ref i2)) (hTO : IsTupOf2 s.heap TO a1 a2) (st1 : St1 n1 s.heap) (st2 : St2 n2 s.heap)
    (hQ : ∀ h' tk, (∀ c o, c ≠ z → c ≠ TO → c ≠ i1 → c ≠ i2 → s.heap.get? c = some o → h'.get? c = some o) → Q none { s with heap := h', toks := tk }) : wpAny (model prog w) A (pyNext (.ref z)) Q E s := by
  have hT : s.TypeIs (.ref z) "zip" := ⟨_, hz, rfl⟩
  unfold pyNext
  refine wpAny_bind (wpAny_attempt (wpAny_callSpecial?_slot (name := Str.ofString "__next__") hT F.slot_zip_next (wpAny_call_entry F.slot_zip_next hT F.entry_zip_next ?_ (F.args_zip_next_1 _))))
  refine zipS_next_end (A := A.in1) hh S D1 D2 hz hTI hTO st1 st2 fun h' tk e hk he => ?_
  obtain ⟨o, ho, hc⟩ := he
  exact wpAny_bind (wpAny_isInstance (T := "StopIteration") (b := true) ⟨o, ho, hc⟩ isSubtype_stop (wpAny_pure (hQ _ _ hk)))
theorem letGo_zipS {elts : List Expr} {x1 : Nat} {pos : Pos} {T : Addr} {Q : Unit → Shared → Prop} (hz : IsZipS s.heap z TI TO (rawInt T))
    (hQ : ∀ h', IsZipS h' z TI TO .none → Heap.SameBut z s.heap h' → Q () { s with heap := h' }) :
    wpAny (model prog w) A (letOwnedTupleGo (.Tuple elts x1 pos) (.ref z) (.ref T)) Q E s := by
  unfold letOwnedTupleGo
  refine wpAny_bind (wpAny_load hz ?_)
  show wpAny _ _ (if (["enumerate", "zip", "dict_itemiterator", "dict_reverseitemiterator", "odict_iterator", "itertools.zip_longest", "itertools.pairwise"].contains "zip" &&
      (#[rawInt T, .bool false, .bool true, .ref TI, .ref TO] : Array Value)[0]? == some (rawInt T)) = true then _ else _) Q E s
  rw [if_pos (by simp)]
  exact wpAny_bind (wpAny_rule (wpAny_setField_rec hz (by simp) fun h' hz' hs' => hQ h' hz' hs'))
theorem pyIter_zipS {f0 : Value} {Q : Value → Shared → Prop} (hz : IsZipS s.heap z TI TO f0) (h : Q (.ref z) s) : wpAny (model prog w) A (pyIter (.ref z)) Q E s := by
  have hT : s.TypeIs (.ref z) "zip" := ⟨_, hz, rfl⟩
  refine wpAny_pyIter_slot hT F.slot_zip_iter (wpAny_call_entry F.slot_zip_iter hT F.entry_zip_iter ?_ (F.args_zip_iter_1 _))
  show wpAny _ _ (ret (.ref z)) _ _ s
  exact wpAny_pure ⟨_, rfl, "zip", _, hT, F.slot_zip_next.lookup, h⟩
end

/-! ### the call zip(a, b, strict=..) -/
theorem tc_zip (a b c : Value) : checkTypeCall "zip" ⟨[a, b], [(Str.ofString "strict", c)]⟩ = pure () := by kernel_rfl
theorem nc_zip (a b c : Value) : checkBuiltinCall "zip.__new__" ⟨[.type "zip", a, b], [(Str.ofString "strict", c)]⟩ = pure () := by kernel_rfl
theorem ai_zip (o a b c : Value) : argsOk "object.__init__" ⟨[o, a, b], [(Str.ofString "strict", c)]⟩ := by unfold argsOk; kernel_rfl
abbrev zO (h : Heap) (o1 o2 : Obj) : Heap := (((h.push o1).push o2).push { cls := .type "tuple", data := .seq #[.ref h.objs.size, .ref (h.push o1).objs.size] }).push { cls := .type "tuple", data := .seq #[.none, .none] }
abbrev zZ (h : Heap) (o1 o2 : Obj) (st : Bool) : Heap := (zO h o1 o2).push { cls := .type "zip", data := .fields #[.none, .bool false, .bool st, .ref ((h.push o1).push o2).objs.size, .ref (((h.push o1).push o2).push { cls := .type "tuple", data := .seq #[.ref h.objs.size, .ref (h.push o1).objs.size] }).objs.size] }
theorem meets_zipK {v1 v2 : Value} {o1 o2 : Obj} {H1 H2 : Heap → Prop} (st : Bool) (B1 : Begins v1 o1 H1) (B2 : Begins v2 o2 H2) :
    Meets (Builtin.«zip.__new__» ⟨[.type "zip", v1, v2], [(Str.ofString "strict", .bool st)]⟩) (fun _ R s => (H1 s.heap ∧ H2 s.heap) ∧
      R (.ok (.ret (.ref (zO s.heap o1 o2).objs.size))) { s with heap := zZ s.heap o1 o2 st }) :=
  .of_wp fun prog w A R s h => by
    obtain ⟨hp, g, d, tk, os⟩ := s
    obtain ⟨⟨h1, h2⟩, h⟩ := h
    have hsub := sub_zip
    have e1 : (Str.ofString "strict" != ("strict" : Str)) = false := by decide +kernel
    have q1 : ∀ {A' : Around} {E : Value → Shared → Prop} {Q : Value → Shared → Prop}, Q (.ref hp.objs.size) ⟨(hp.push o1), g, d, tk, os⟩ → wpAny (model prog w) A' (pyIter v1) Q E ⟨hp, g, d, tk, os⟩ :=
      fun q => B1.iter prog w _ _ ⟨hp, g, d, tk, os⟩ _ h1 q
    have q2 : ∀ {A' : Around} {E : Value → Shared → Prop} {Q : Value → Shared → Prop}, Q (.ref (hp.push o1).objs.size) ⟨((hp.push o1).push o2), g, d, tk, os⟩ → wpAny (model prog w) A' (pyIter v2) Q E ⟨(hp.push o1), g, d, tk, os⟩ :=
      fun q => B2.iter prog w _ _ ⟨(hp.push o1), g, d, tk, os⟩ _ (B2.keeps _ _ h2 fun b o' e => (Heap.get?_push_of_some _ e)) q
    have q3 : ∀ {A' : Around} {E : Value → Shared → Prop} {Q : Bool → Shared → Prop} {s : Shared}, Q st s → wpAny (model prog w) A' (truthy (.bool st)) Q E s := fun q => wpAny_truthy_bool q
    wp_walk using q1, q2, q3
    exact ⟨_, rfl, h⟩
theorem zip_beginsK {prog : Program} {w : World} {A : Around} {E : Value → Shared → Prop} {s : Shared} {v1 v2 : Value} {o1 o2 : Obj} {H1 H2 : Heap → Prop} {Q : Value → Shared → Prop} (st : Bool) (B1 : Begins v1 o1 H1) (B2 : Begins v2 o2 H2) (h1 : H1 s.heap) (h2 : H2 s.heap)
    (h : ∀ h', h'.get? (s.heap.objs.size + 4) = some { cls := .type "zip", data := .fields #[.none, .bool false, .bool st, .ref (s.heap.objs.size + 2), .ref (s.heap.objs.size + 3)] } → IsTupOf2 h' (s.heap.objs.size + 2) (.ref s.heap.objs.size) (.ref (s.heap.objs.size + 1)) →
      IsTupOf2 h' (s.heap.objs.size + 3) .none .none → h'.get? s.heap.objs.size = some o1 → h'.get? (s.heap.objs.size + 1) = some o2 →
      (∀ c o, s.heap.get? c = some o → h'.get? c = some o) → Q (.ref (s.heap.objs.size + 4)) { s with heap := h' }) :
    wpAny (model prog w) A (call (.type "zip") [v1, v2] [(Str.ofString "strict", .bool st)]) Q E s := by
  refine callType_newKw F.called_zip (by decide) (tc_zip _ _ _) (nc_zip _ _ _) (fun obj => ai_zip obj _ _ _) F.entry_zip_new (meets_zipK st B1 B2) ⟨⟨h1, h2⟩, ?_⟩
  have z1 : (s.heap.push o1).objs.size = s.heap.objs.size + 1 := by rw [Heap.size_push]
  have z2 : ((s.heap.push o1).push o2).objs.size = s.heap.objs.size + 2 := by rw [Heap.size_push, z1]
  have z3 : (((s.heap.push o1).push o2).push { cls := .type "tuple", data := .seq #[.ref s.heap.objs.size, .ref (s.heap.push o1).objs.size] }).objs.size = s.heap.objs.size + 3 := by rw [Heap.size_push, z2]
  have z4 : (zO s.heap o1 o2).objs.size = s.heap.objs.size + 4 := by rw [Heap.size_push, z3]
  have gZ : (zZ s.heap o1 o2 st).get? (zO s.heap o1 o2).objs.size = some _ := Heap.get?_push_size _ rfl
  have gO : (zZ s.heap o1 o2 st).get? (((s.heap.push o1).push o2).push { cls := .type "tuple", data := .seq #[.ref s.heap.objs.size, .ref (s.heap.push o1).objs.size] }).objs.size = some _ := Heap.get?_push_of_some _ (Heap.get?_push_size _ rfl)
  have gT : (zZ s.heap o1 o2 st).get? ((s.heap.push o1).push o2).objs.size = some _ := Heap.get?_push_of_some _ (Heap.get?_push_of_some _ (Heap.get?_push_size _ rfl))
  have g2 : (zZ s.heap o1 o2 st).get? (s.heap.push o1).objs.size = some o2 := Heap.get?_push_of_some _ (Heap.get?_push_of_some _ (Heap.get?_push_of_some _ (Heap.get?_push_size _ B2.free)))
  have g1 : (zZ s.heap o1 o2 st).get? s.heap.objs.size = some o1 := Heap.get?_push_of_some _ (Heap.get?_push_of_some _ (Heap.get?_push_of_some _ (Heap.get?_push_of_some _ (Heap.get?_push_size _ B1.free))))
  rw [z4, z2, z3] at gZ
  rw [z3] at gO
  rw [z2, z1] at gT
  rw [z1] at g2
  show _ ∧ _
  rw [z4]
  exact ⟨⟨_, gZ, rfl⟩, h _ gZ gT gO g1 g2 fun c o x =>
    Heap.get?_push_of_some _ (Heap.get?_push_of_some _ (Heap.get?_push_of_some _ (Heap.get?_push_of_some _ (Heap.get?_push_of_some _ x))))⟩
/-- a call of a built-in class with keywords -/
theorem callWith_typeK {M : Model} {A : Around} {E : Value → Shared → Prop} {s : Shared} {env : Env} {pos : Pos} {T : String} {e : Expr} {rest : List Expr} {kws : List Keyword} {Q : Value → Shared → Prop}
    (h : wpAny M A (spliced (backTo pos (starEach (e :: rest) env))) (fun vs s1 => wpAny M A (evalAll ((backToKw pos (keywordEach kws env)).map (·.2)))
      (fun kvs s2 => wpAny M A (call (.type T) vs (((backToKw pos (keywordEach kws env)).filterMap (·.1)).zip kvs)) Q E s2) E s1) E s)
    (he : backTo pos (starEach (e :: rest) env) = (false, eval e env) :: backTo pos (starEach rest env) := by rfl)
    (hplain : (backTo pos (starEach (e :: rest) env)).any (·.1) = false := by rfl)
    (hall : (backToKw pos (keywordEach kws env)).all (·.1.isSome) = true := by rfl)
    (hkw : (backToKw pos (keywordEach kws env)).any (·.1.isNone) = false := by rfl) :
    wpAny M A (callWith pos (.type T) [] (backTo pos (starEach (e :: rest) env)) (backToKw pos (keywordEach kws env))) Q E s := by
  have h2 : wpAny M A (evalArgs (.type T) true (backTo pos (starEach (e :: rest) env)) (backToKw pos (keywordEach kws env))) (fun a s1 => wpAny M A (call (.type T) ([] ++ a.pos) a.kw) Q E s1) E s := by
    rw [he] at h ⊢
    exact evalArgs_kwB hall h
  unfold callWith
  refine wpAny_bind (wpAny_holding (wpAny_mono h2 (fun a s1 h1 => wpAny_bind (wpAny_standAt ?_)) fun _ _ x => x))
  simp only [hplain, hkw, Bool.or_false]
  refine wpAny_bind (wpAny_pure ?_)
  exact wpAny_bind (wpAny_mono h1 (fun r s2 hr => wpAny_bind (wpAny_holding (wpAny_point (wpAny_pure hr)))) fun _ _ x => x)
end BR
end
section
set_option Elab.async false
set_option maxRecDepth 100000
set_option maxHeartbeats 1000000
namespace BR
open PySem PySem.Spec PyProof.Rows L2

/-! ### for a, b in zip(x, y, strict=True): x, y lists or tuples of one length -/
def ItzS (K : PySem.W.Frag) (k1 k2 : Kd) (a b : Addr) : It :=
  ⟨fun i H => ∃ (xs ys : List V) (x y : V), SqK K H k1 a xs ∧ SqK K H k2 b ys ∧ xs[i]? = some x ∧ ys[i]? = some y,
    fun i H v H' => ∃ T x y, v = .ref T ∧ H T = none ∧ H' = upd H T (.tup [x, y]) ∧ (∀ xs, SqK K H k1 a xs → xs[i]? = some x) ∧ ∀ ys, SqK K H k2 b ys → ys[i]? = some y,
    fun i H => ∃ xs ys : List V, SqK K H k1 a xs ∧ SqK K H k2 b ys ∧ xs.length = i ∧ ys.length = i⟩
theorem turn_zipS {P : Program} {w : World} {K : PySem.W.Frag} {elts : List Expr} {kk : Nat} {tpos : Pos} {k1 k2 : Kd} {a b z TI TO i1 i2 : Addr} (D : ZipSep2 z TI TO i1 i2 [i1, a] [i2, b]) (a1 : a ≠ i1) (b2 : b ≠ i2) :
    Turn P w K (.Tuple elts kk tpos) (ItzS K k1 k2 a b) [z, TI, TO, i1, i2] z (fun i h => IsZipS h z TI TO .none ∧ IsTupOf2 h TI (.ref i1) (.ref i2) ∧ (∃ x y, IsTupOf2 h TO x y) ∧ kIt k1 h i1 a i ∧ kIt k2 h i2 b i) where
  mem := by simp
  obj := fun i h st c hc => by
    obtain ⟨hz, hTI, ⟨x, y, hTO⟩, h1, h2⟩ := st
    have e' : c = z ∨ c = TI ∨ c = TO ∨ c = i1 ∨ c = i2 := by simpa using hc
    rcases e' with q | q | q | q | q
    · rw [q]; exact ⟨_, hz, fun v q => nomatch q⟩
    · rw [q]; exact ⟨_, hTI, fun v q => nomatch q⟩
    · rw [q]; exact ⟨_, hTO, fun v q => nomatch q⟩
    · rw [q]; exact kIt_obj h1
    · rw [q]; exact kIt_obj h2
  keep := fun i h h' st k => by
    obtain ⟨hz, hTI, ⟨x, y, hTO⟩, h1, h2⟩ := st
    exact ⟨k z (by simp) _ hz, k TI (by simp) _ hTI, ⟨x, y, k TO (by simp) _ hTO⟩, kIt_at h1 fun o q => k i1 (by simp) o q, kIt_at h2 fun o q => k i2 (by simp) o q⟩
  item := by
    intro X hP hw hK hc i pins s σ H E I hf st hg
    subst hP hw hK
    obtain ⟨hz, hTI, ⟨x0, y0, hTO⟩, h1, h2⟩ := st
    obtain ⟨xs, ys, x, y, hqx, hqy, hx, hy⟩ := hg
    obtain ⟨its, rv, p, _⟩ := sqK_get I hqx
    obtain ⟨its2, rv2, p2, _⟩ := sqK_get I hqy
    obtain ⟨u, hu, ru⟩ := rv.get hx
    obtain ⟨u2, hu2, ru2⟩ := rv2.get hy
    have hzl : z < s.heap.objs.size := Heap.lt_size hz
    refine pyNext_zipS_item D (kDraws (A := X.A.in1) (I.ok.hd hc) k1 i1 a a1 its.toArray) (kDraws (A := X.A.in1) (I.ok.hd hc) k2 i2 b b2 its2.toArray) hz hTI hTO ⟨h1, p⟩ ⟨h2, p2⟩
      (by have := (List.getElem?_eq_some_iff.mp hu).1; simpa using this) (by have := (List.getElem?_eq_some_iff.mp hu2).1; simpa using this) fun w1 w2 h' tk e1 e2 z' TO' h1' h2' hT hsz hk => ?_
    have e1 : w1 = u := by
      have e1 : its.toArray[i]? = some w1 := e1
      rw [List.getElem?_toArray, hu] at e1
      exact (Option.some.inj e1).symm
    have e2 : w2 = u2 := by
      have e2 : its2.toArray[i]? = some w2 := e2
      rw [List.getElem?_toArray, hu2] at e2
      exact (Option.some.inj e2).symm
    subst e1 e2
    refine ⟨_, rfl, letGo_zipS (s := { s with heap := h', toks := tk }) z' fun h'' z'' sb => ?_⟩
    have hT2 : h''.get? s.heap.objs.size = some { cls := .type "tuple", data := .seq #[w1, w2] } := (sb.2 _ (Nat.ne_of_gt hzl)).trans hT
    have new : ObjOk X.prog X.w (upd H s.heap.objs.size (.tup [x, y])) h'' s.heap.objs.size (.tup [x, y]) :=
      ⟨by show 2 ≤ sizeLine; decide, [w1, w2], .cons ru (.cons ru2 .nil), ⟨_, hT2, rfl, _, rfl⟩⟩
    have I1 : Inv X pins σ (upd H s.heap.objs.size (.tup [x, y])) { s with heap := h'', toks := tk } :=
      I.turnedNew (t' := tk) (ch := [z, TI, TO, i1, i2]) (fun c o hb q => (sb.2 c (fun q' => hb (by simp [q']))).trans (hk c o (fun q' => hb (by simp [q'])) (fun q' => hb (by simp [q'])) (fun q' => hb (by simp [q'])) (fun q' => hb (by simp [q'])) q)) hf (Nat.le_refl _) new
    refine ⟨.ref s.heap.objs.size, _, I1, rfl, ⟨_, x, y, rfl, I.hok.fresh (Nat.le_refl _), rfl, fun l hl => by rw [sqK_inj I hl hqx]; exact hx, fun l hl => by rw [sqK_inj I hl hqy]; exact hy⟩, ⟨z'', ?_, ⟨w1, w2, ?_⟩, ?_, ?_⟩, fun c hcm => ?_⟩
    · exact (sb.2 _ D.TIz).trans (hk _ _ D.TIz D.TITO D.TIi1 D.TIi2 hTI)
    · exact (sb.2 _ D.TOz).trans TO'
    · exact kIt_at h1'.1 fun o q => (sb.2 _ D.zi1.symm).trans q
    · exact kIt_at h2'.1 fun o q => (sb.2 _ D.zi2.symm).trans q
    · have hlt : c < s.heap.objs.size := by
        have e' : c = z ∨ c = TI ∨ c = TO ∨ c = i1 ∨ c = i2 := by simpa using hcm
        rcases e' with q | q | q | q | q
        · rw [q]; exact hzl
        · rw [q]; exact Heap.lt_size hTI
        · rw [q]; exact Heap.lt_size hTO
        · rw [q]; obtain ⟨_, e1, _⟩ := kIt_obj h1; exact Heap.lt_size e1
        · rw [q]; obtain ⟨_, e2, _⟩ := kIt_obj h2; exact Heap.lt_size e2
      rw [upd_ne (Nat.ne_of_lt hlt)]
      exact (hf c hcm).1
  done := by
    intro X hP hw hK hc i pins s σ H E I hf st hg
    subst hP hw hK
    obtain ⟨hz, hTI, ⟨x0, y0, hTO⟩, h1, h2⟩ := st
    obtain ⟨xs, ys, hqx, hqy, l1, l2⟩ := hg
    obtain ⟨its, rv, p, _⟩ := sqK_get I hqx
    obtain ⟨its2, rv2, p2, _⟩ := sqK_get I hqy
    have e1 : i = its.toArray.size := by rw [List.size_toArray, ← rv.length]; exact l1.symm
    have e2 : i = its2.toArray.size := by rw [List.size_toArray, ← rv2.length]; exact l2.symm
    refine pyNext_zipS_end (I.ok.hd hc) D (kDraws (A := X.A.in1) (I.ok.hd hc) k1 i1 a a1 its.toArray) (kDraws (A := X.A.in1) (I.ok.hd hc) k2 i2 b b2 its2.toArray) hz hTI hTO ⟨e1 ▸ h1, p⟩ ⟨e2 ▸ h2, p2⟩ fun h' tk hk => ⟨rfl, ?_⟩
    exact I.turnedL (t' := tk) (ch := [z, TI, TO, i1, i2]) (fun c o hb q =>
      hk c o (fun q' => hb (by simp [q'])) (fun q' => hb (by simp [q'])) (fun q' => hb (by simp [q'])) (fun q' => hb (by simp [q'])) q) hf
  self := fun A i s Q E st h => pyIter_zipS st.1 h
theorem walk_zipS {K : PySem.W.Frag} {k1 k2 : Kd} {a b : Addr} {xs ys : List V} (hn : xs.length = ys.length) : Walk (ItzS K k1 k2 a b) xs.length (fun H => SqK K H k1 a xs ∧ SqK K H k2 b ys) (YPair (fun i => xs[i]?) (fun i => ys[i]?)) := by
  refine ⟨fun i H hi q => ⟨xs, ys, xs[i], ys[i]'(hn ▸ hi), q.1, q.2, List.getElem?_eq_getElem hi, List.getElem?_eq_getElem (hn ▸ hi)⟩, fun H q => ⟨xs, ys, q.1, q.2, rfl, hn.symm⟩, fun i H v H' hi q y => ?_⟩
  obtain ⟨T, x, y, e1, e2, e3, f1, f2⟩ := y
  exact ⟨T, x, y, e1, e2, e3, f1 xs q.1, f2 ys q.2⟩
theorem fresh_at {X : Cx} {pins : List (Addr × Obj)} {σ : L2.St} {H : Hp} {s : Shared} (I : Inv X pins σ H s) {c : Addr} {l : List Nat} (h : c ∈ l.map (s.heap.objs.size + ·)) : FpOk X pins H c := by
  obtain ⟨j, _, rfl⟩ := List.mem_map.mp h
  have hle : s.heap.objs.size ≤ s.heap.objs.size + j := Nat.le_add_right _ _
  exact I.fpOk hle (I.hok.fresh hle)
def iZipS (K : PySem.W.Frag) (ta : TA) : TI := fun σ H R => ta σ H fun vs H1 => ∃ k1 k2 a b xs ys, vs = [.ref a, .ref b] ∧ SqK K H1 k1 a xs ∧ SqK K H1 k2 b ys ∧ R (ItzS K k1 k2 a b) H1
section
variable {X : Cx}
theorem pi_zipS {e e2 : Expr} {ta : TA} {p pos tpos kp cp : Pos} {elts : List Expr} {kk j : Nat} (hm : X.mg "zip" = none) (ha : PA X [e, e2] ta) (hg : Gl X "zip" := by rfl)
    (he : backTo pos (starEach (e :: [e2]) X.env) = (false, eval e X.env) :: backTo pos (starEach [e2] X.env) := by rfl)
    (hpl : (backTo pos (starEach (e :: [e2]) X.env)).any (·.1) = false := by rfl) :
    PI X (.Tuple elts kk tpos) (.Call (.Name "zip" p) [e, e2] [⟨some (Str.ofString "strict"), .Constant (.bool true) j cp, kp⟩] pos) (iZipS X.K ta) := by
  refine ⟨fun pins s σ H R I h => ?_⟩
  refine wpAny_Call_Name_kw (ld_blt I hg hm PyProof.Rows.boot_zip ?_)
  refine callWith_typeK (thn (ha.run pos pins s σ H _ I h) fun us s1 ⟨vs, H1, I1, r1, q1⟩ => ?_) he hpl
  refine kws_cons (Constant_bool (kws_nil ?_))
  obtain ⟨k1, k2, a, b, xs, ys, ex, hqx, hqy, q⟩ := q1
  subst ex
  obtain ⟨u1, u2, rfl, ra, rb⟩ := Vals.two r1
  cases ra
  cases rb
  obtain ⟨its, rv, p1, la⟩ := sqK_get I1 hqx
  obtain ⟨its2, rv2, p2, lb⟩ := sqK_get I1 hqy
  refine zip_beginsK true (kBegins k1 a its.toArray) (kBegins k2 b its2.toArray) p1 p2 fun h' hz hTI hTO h1 h2 hk => pyIter_zipS hz ?_
  have I2 : Inv X pins σ H1 { s1 with heap := h' } := I1.kept (t' := s1.toks) hk
  have D := zip_sep2 (N := s1.heap.objs.size) (fp1 := [a]) (fp2 := [b]) (fun c hc => by rw [List.mem_singleton.mp hc]; exact la) (fun c hc => by rw [List.mem_singleton.mp hc]; exact lb)
  refine ⟨s1.heap.objs.size + 4, _, _, _, H1, rfl, I2, turn_zipS (k1 := k1) (k2 := k2) D (Nat.ne_of_lt la) (Nat.ne_of_lt (Nat.lt_succ_of_lt lb)), ⟨hz, hTI, ⟨_, _, hTO⟩, kIt_zero h1, kIt_zero h2⟩, fun c hcm => fresh_at I1 (l := [4, 2, 3, 0, 1]) hcm, q⟩
/-- zip(x, y, strict=False) of two lists -/
theorem pi_zipF {e e2 : Expr} {ta : TA} {p pos tpos kp cp : Pos} {elts : List Expr} {kk j : Nat} (hm : X.mg "zip" = none) (ha : PA X [e, e2] ta) (hg : Gl X "zip" := by rfl)
    (he : backTo pos (starEach (e :: [e2]) X.env) = (false, eval e X.env) :: backTo pos (starEach [e2] X.env) := by rfl)
    (hpl : (backTo pos (starEach (e :: [e2]) X.env)).any (·.1) = false := by rfl) :
    PI X (.Tuple elts kk tpos) (.Call (.Name "zip" p) [e, e2] [⟨some (Str.ofString "strict"), .Constant (.bool false) j cp, kp⟩] pos) (iZip X.K ta) := by
  refine ⟨fun pins s σ H R I h => ?_⟩
  refine wpAny_Call_Name_kw (ld_blt I hg hm PyProof.Rows.boot_zip ?_)
  refine callWith_typeK (thn (ha.run pos pins s σ H _ I h) fun us s1 ⟨vs, H1, I1, r1, q1⟩ => ?_) he hpl
  refine kws_cons (Constant_bool (kws_nil ?_))
  obtain ⟨a, b, xs, ys, ex, hqx, hqy, q⟩ := q1
  subst ex
  obtain ⟨u1, u2, rfl, ra, rb⟩ := Vals.two r1
  cases ra
  cases rb
  obtain ⟨its, rv, p1, la⟩ := sqK_get (k := .l) I1 hqx
  obtain ⟨its2, rv2, p2, lb⟩ := sqK_get (k := .l) I1 hqy
  refine zip_beginsK false (kBegins .l a its.toArray) (kBegins .l b its2.toArray) p1 p2 fun h' hz hTI hTO h1 h2 hk => wpAny_pyIter_zip hz ?_
  have I2 : Inv X pins σ H1 { s1 with heap := h' } := I1.kept (t' := s1.toks) hk
  refine ⟨s1.heap.objs.size + 4, _, _, _, H1, rfl, I2, turn_zip (PySem.W.ktu_apart s1.heap.objs.size a b la lb), ⟨hz, hTI, ⟨_, _, hTO⟩, kIt_zero (k := .l) h1, kIt_zero (k := .l) h2⟩, fun c hcm => fresh_at I1 (l := [4, 2, 3, 0, 1]) hcm, q⟩
end

/-! ### for a, b, c in zip(x, y, z): three tuples -/
def It3 (K : PySem.W.Frag) (a b c : Addr) : It :=
  ⟨fun i H => ∃ (xs ys zs : List V) (x y z : V), SqT K H a xs ∧ SqT K H b ys ∧ SqT K H c zs ∧ xs[i]? = some x ∧ ys[i]? = some y ∧ zs[i]? = some z,
    fun i H v H' => ∃ T x y z, v = .ref T ∧ H T = none ∧ H' = upd H T (.tup [x, y, z]) ∧ (∀ xs, SqT K H a xs → xs[i]? = some x) ∧ (∀ ys, SqT K H b ys → ys[i]? = some y) ∧ ∀ zs, SqT K H c zs → zs[i]? = some z,
    fun i H => ∃ xs ys zs : List V, SqT K H a xs ∧ SqT K H b ys ∧ SqT K H c zs ∧ i = xs.length ∧ i = ys.length ∧ i = zs.length⟩
theorem ix_some {its : List Value} {i : Nat} {u w : Value} (h : its[i]? = some u) (e : its.toArray[i]? = some w) : w = u := by
  rw [List.getElem?_toArray, h] at e
  exact (Option.some.inj e).symm
theorem ix_lt {its : List Value} {i : Nat} {u : Value} (h : its[i]? = some u) : i < its.toArray.size := by
  have := (List.getElem?_eq_some_iff.mp h).1
  simpa using this
theorem turn_zip3 {P : Program} {w : World} {K : PySem.W.Frag} {elts : List Expr} {kk : Nat} {tpos : Pos} {a b c z TI TO i1 i2 i3 : Addr} (D : ZipSep3 z TI TO i1 i2 i3 [i1, a] [i2, b] [i3, c]) (a1 : a ≠ i1) (b2 : b ≠ i2) (c3 : c ≠ i3) :
    Turn P w K (.Tuple elts kk tpos) (It3 K a b c) [z, TI, TO, i1, i2, i3] z (fun i h => IsZip h z TI TO .none ∧ IsTupOf3 h TI (.ref i1) (.ref i2) (.ref i3) ∧ (∃ x y u, IsTupOf3 h TO x y u) ∧ kIt .t h i1 a i ∧ kIt .t h i2 b i ∧ kIt .t h i3 c i) where
  mem := by simp
  obj := fun i h st d hc => by
    obtain ⟨hz, hTI, ⟨x, y, u, hTO⟩, h1, h2, h3⟩ := st
    have e' : d = z ∨ d = TI ∨ d = TO ∨ d = i1 ∨ d = i2 ∨ d = i3 := by simpa using hc
    rcases e' with q | q | q | q | q | q
    · rw [q]; exact ⟨_, hz, fun v q => nomatch q⟩
    · rw [q]; exact ⟨_, hTI, fun v q => nomatch q⟩
    · rw [q]; exact ⟨_, hTO, fun v q => nomatch q⟩
    · rw [q]; exact kIt_obj h1
    · rw [q]; exact kIt_obj h2
    · rw [q]; exact kIt_obj h3
  keep := fun i h h' st k => by
    obtain ⟨hz, hTI, ⟨x, y, u, hTO⟩, h1, h2, h3⟩ := st
    exact ⟨k z (by simp) _ hz, k TI (by simp) _ hTI, ⟨x, y, u, k TO (by simp) _ hTO⟩, kIt_at h1 fun o q => k i1 (by simp) o q, kIt_at h2 fun o q => k i2 (by simp) o q, kIt_at h3 fun o q => k i3 (by simp) o q⟩
  item := by
    intro X hP hw hK hc i pins s σ H E I hf st hg
    subst hP hw hK
    obtain ⟨hz, hTI, ⟨x0, y0, u0, hTO⟩, h1, h2, h3⟩ := st
    obtain ⟨xs, ys, zs, x, y, v, hqx, hqy, hqz, hx, hy, hv⟩ := hg
    obtain ⟨its, rv, p, _⟩ := I.tuple hqx
    obtain ⟨its2, rv2, p2, _⟩ := I.tuple hqy
    obtain ⟨its3, rv3, p3, _⟩ := I.tuple hqz
    obtain ⟨u, hu, ru⟩ := rv.get hx
    obtain ⟨u2, hu2, ru2⟩ := rv2.get hy
    obtain ⟨u3, hu3, ru3⟩ := rv3.get hv
    have hzl : z < s.heap.objs.size := Heap.lt_size hz
    refine wpAny_pyNext_zipD3_item D (kDraws (A := X.A.in1) (I.ok.hd hc) .t i1 a a1 its.toArray) (kDraws (A := X.A.in1) (I.ok.hd hc) .t i2 b b2 its2.toArray) (kDraws (A := X.A.in1) (I.ok.hd hc) .t i3 c c3 its3.toArray) hz hTI hTO ⟨h1, p⟩ ⟨h2, p2⟩ ⟨h3, p3⟩
      (ix_lt hu) (ix_lt hu2) (ix_lt hu3) fun w1 w2 w3 h' tk e1 e2 e3 z' TO' h1' h2' h3' hT hsz hk => ?_
    obtain rfl := ix_some hu e1
    obtain rfl := ix_some hu2 e2
    obtain rfl := ix_some hu3 e3
    refine ⟨_, rfl, wpAny_letOwnedTupleGo_zip (s := { s with heap := h', toks := tk }) z' fun h'' z'' sb => ?_⟩
    have hT2 : h''.get? s.heap.objs.size = some { cls := .type "tuple", data := .seq #[w1, w2, w3] } := (sb.2 _ (Nat.ne_of_gt hzl)).trans hT
    have new : ObjOk X.prog X.w (upd H s.heap.objs.size (.tup [x, y, v])) h'' s.heap.objs.size (.tup [x, y, v]) :=
      ⟨by show 3 ≤ sizeLine; decide, [w1, w2, w3], .cons ru (.cons ru2 (.cons ru3 .nil)), ⟨_, hT2, rfl, _, rfl⟩⟩
    have I1 : Inv X pins σ (upd H s.heap.objs.size (.tup [x, y, v])) { s with heap := h'', toks := tk } :=
      I.turnedNew (t' := tk) (ch := [z, TI, TO, i1, i2, i3]) (fun d o hb q => (sb.2 d (fun q' => hb (by simp [q']))).trans (hk d o (fun q' => hb (by simp [q'])) (fun q' => hb (by simp [q'])) (fun q' => hb (by simp [q'])) (fun q' => hb (by simp [q'])) (fun q' => hb (by simp [q'])) q)) hf (Nat.le_refl _) new
    refine ⟨.ref s.heap.objs.size, _, I1, rfl, ⟨_, x, y, v, rfl, I.hok.fresh (Nat.le_refl _), rfl, fun l hl => by rw [I.tuple_inj hl hqx]; exact hx, fun l hl => by rw [I.tuple_inj hl hqy]; exact hy, fun l hl => by rw [I.tuple_inj hl hqz]; exact hv⟩, ⟨z'', ?_, ⟨w1, w2, w3, ?_⟩, ?_, ?_, ?_⟩, fun d hcm => ?_⟩
    · exact (sb.2 _ D.TIz).trans (hk _ _ D.TIz D.TITO D.TIi1 D.TIi2 D.TIi3 hTI)
    · exact (sb.2 _ D.TOz).trans TO'
    · exact kIt_at h1'.1 fun o q => (sb.2 _ D.zi1.symm).trans q
    · exact kIt_at h2'.1 fun o q => (sb.2 _ D.zi2.symm).trans q
    · exact kIt_at h3'.1 fun o q => (sb.2 _ D.zi3.symm).trans q
    · have hlt : d < s.heap.objs.size := by
        have e' : d = z ∨ d = TI ∨ d = TO ∨ d = i1 ∨ d = i2 ∨ d = i3 := by simpa using hcm
        rcases e' with q | q | q | q | q | q
        · rw [q]; exact hzl
        · rw [q]; exact Heap.lt_size hTI
        · rw [q]; exact Heap.lt_size hTO
        · rw [q]; obtain ⟨_, e1, _⟩ := kIt_obj h1; exact Heap.lt_size e1
        · rw [q]; obtain ⟨_, e2, _⟩ := kIt_obj h2; exact Heap.lt_size e2
        · rw [q]; obtain ⟨_, e2, _⟩ := kIt_obj h3; exact Heap.lt_size e2
      rw [upd_ne (Nat.ne_of_lt hlt)]
      exact (hf d hcm).1
  done := by
    intro X hP hw hK hc i pins s σ H E I hf st hg
    subst hP hw hK
    obtain ⟨hz, hTI, ⟨x0, y0, u0, hTO⟩, h1, h2, h3⟩ := st
    obtain ⟨xs, ys, zs, hqx, hqy, hqz, l1, l2, l3⟩ := hg
    obtain ⟨its, rv, p, _⟩ := I.tuple hqx
    obtain ⟨its2, rv2, p2, _⟩ := I.tuple hqy
    obtain ⟨its3, rv3, p3, _⟩ := I.tuple hqz
    have e1 : i = its.toArray.size := by rw [List.size_toArray, ← rv.length]; exact l1
    have e2 : i = its2.toArray.size := by rw [List.size_toArray, ← rv2.length]; exact l2
    have e3 : i = its3.toArray.size := by rw [List.size_toArray, ← rv3.length]; exact l3
    refine wpAny_pyNext_zipD3_end D (kDraws (A := X.A.in1) (I.ok.hd hc) .t i1 a a1 its.toArray) (kDraws (A := X.A.in1) (I.ok.hd hc) .t i2 b b2 its2.toArray) (kDraws (A := X.A.in1) (I.ok.hd hc) .t i3 c c3 its3.toArray) hz hTI hTO ⟨h1, p⟩ ⟨h2, p2⟩ ⟨h3, p3⟩
      (Nat.le_of_eq e1) (Nat.le_of_eq e2) (Nat.le_of_eq e3) (.inl e1) fun h' tk hk => ⟨rfl, ?_⟩
    exact I.turnedL (t' := tk) (ch := [z, TI, TO, i1, i2, i3]) (fun d o hb q =>
      hk d o (fun q' => hb (by simp [q'])) (fun q' => hb (by simp [q'])) (fun q' => hb (by simp [q'])) (fun q' => hb (by simp [q'])) (fun q' => hb (by simp [q'])) q) hf
  self := fun A i s Q E st h => wpAny_pyIter_zip st.1 h
/-- a new triple -/
def YTrip (xs ys zs : Nat → Option V) : Nat → Hp → V → Hp → Prop := fun i H v H' => ∃ T x y z, v = .ref T ∧ H T = none ∧ H' = upd H T (.tup [x, y, z]) ∧ xs i = some x ∧ ys i = some y ∧ zs i = some z
theorem walk_zip3 {K : PySem.W.Frag} {a b c : Addr} {xs ys zs : List V} (h1 : xs.length = ys.length) (h2 : xs.length = zs.length) :
    Walk (It3 K a b c) xs.length (fun H => SqT K H a xs ∧ SqT K H b ys ∧ SqT K H c zs) (YTrip (fun i => xs[i]?) (fun i => ys[i]?) (fun i => zs[i]?)) := by
  refine ⟨fun i H hi q => ⟨xs, ys, zs, xs[i], ys[i]'(h1 ▸ hi), zs[i]'(h2 ▸ hi), q.1, q.2.1, q.2.2, List.getElem?_eq_getElem hi, List.getElem?_eq_getElem (h1 ▸ hi), List.getElem?_eq_getElem (h2 ▸ hi)⟩, fun H q => ⟨xs, ys, zs, q.1, q.2.1, q.2.2, rfl, h1, h2⟩, fun i H v H' hi q y => ?_⟩
  obtain ⟨T, x, y, z, e1, e2, e3, f1, f2, f3⟩ := y
  exact ⟨T, x, y, z, e1, e2, e3, f1 xs q.1, f2 ys q.2.1, f3 zs q.2.2⟩
def iZip3 (K : PySem.W.Frag) (ta : TA) : TI := fun σ H R => ta σ H fun vs H1 => ∃ a b c xs ys zs, vs = [.ref a, .ref b, .ref c] ∧ SqT K H1 a xs ∧ SqT K H1 b ys ∧ SqT K H1 c zs ∧ R (It3 K a b c) H1
theorem vals3 {x y z : V} {us : List Value} (r : Vals [x, y, z] us) : ∃ u v w, us = [u, v, w] ∧ RelV x u ∧ RelV y v ∧ RelV z w := by
  cases r with
  | cons r1 t =>
    obtain ⟨v, w, rfl, r2, r3⟩ := Vals.two t
    exact ⟨_, v, w, rfl, r1, r2, r3⟩
section
variable {X : Cx}
theorem pi_zip3 {e e2 e3 : Expr} {ta : TA} {p pos tpos : Pos} {elts : List Expr} {kk : Nat} (hm : X.mg "zip" = none) (ha : PA X [e, e2, e3] ta) (hg : Gl X "zip" := by rfl)
    (hs : starEach [e, e2, e3] X.env = (false, eval e X.env) :: starEach [e2, e3] X.env := by rfl) (hpl : (backTo pos (starEach [e2, e3] X.env)).any (·.1) = false := by rfl) :
    PI X (.Tuple elts kk tpos) (.Call (.Name "zip" p) [e, e2, e3] [] pos) (iZip3 X.K ta) := by
  refine ⟨fun pins s σ H R I h => ?_⟩
  refine Call_ (ld_blt I hg hm PyProof.Rows.boot_zip (PyProof.Rows.callWith_type1 (thn (ha.run pos pins s σ H _ I h) fun us s1 ⟨vs, H1, I1, r1, q1⟩ => ?_) hs hpl))
  obtain ⟨a, b, c, xs, ys, zs, ex, hqx, hqy, hqz, q⟩ := q1
  subst ex
  obtain ⟨u1, u2, u3, rfl, ra, rb, rc⟩ := vals3 r1
  cases ra
  cases rb
  cases rc
  obtain ⟨its, rv, p1, la⟩ := sqK_get (k := .t) I1 hqx
  obtain ⟨its2, rv2, p2, lb⟩ := sqK_get (k := .t) I1 hqy
  obtain ⟨its3, rv3, p3, lc⟩ := sqK_get (k := .t) I1 hqz
  refine zip_begins3 (kBegins .t a its.toArray) (kBegins .t b its2.toArray) (kBegins .t c its3.toArray) p1 p2 p3 fun h' hz hTI hTO h1 h2 h3 hsz hk => wpAny_pyIter_zip hz ?_
  have I2 : Inv X pins σ H1 { s1 with heap := h' } := I1.kept (t' := s1.toks) hk
  have D := zip_sep3 (N := s1.heap.objs.size) (fp1 := [a]) (fp2 := [b]) (fp3 := [c]) (fun d hc => by rw [List.mem_singleton.mp hc]; exact la) (fun d hc => by rw [List.mem_singleton.mp hc]; exact lb) (fun d hc => by rw [List.mem_singleton.mp hc]; exact lc)
  refine ⟨s1.heap.objs.size + 5, _, _, _, H1, rfl, I2, turn_zip3 D (Nat.ne_of_lt la) (Nat.ne_of_lt (Nat.lt_succ_of_lt lb)) (Nat.ne_of_lt (Nat.lt_succ_of_lt (Nat.lt_succ_of_lt lc))), ⟨hz, hTI, ⟨_, _, _, hTO⟩, kIt_zero (k := .t) h1, kIt_zero (k := .t) h2, kIt_zero (k := .t) h3⟩, fun c hcm => fresh_at I1 (l := [5, 3, 4, 0, 1, 2]) hcm, q⟩
end

/-! ### for i, x in enumerate(t), t a tuple -/
theorem meets_enumT (l : Addr) (items : Array Value) (n : Nat) (dct : Option Addr) (sl : Array (Option Value)) :
    Meets (Builtin.«enumerate.__new__» ⟨[.type "enumerate", .ref l], []⟩) (fun _ R s => s.heap.get? l = some { cls := .type "tuple", dict := dct, data := .seq items n, slots := sl } ∧
      R (.ok (.ret (.ref (s.heap.push { cls := .type "tuple_iterator", data := .fields #[.ref l, .int 0 0] }).objs.size)))
        { s with heap := (s.heap.push { cls := .type "tuple_iterator", data := .fields #[.ref l, .int 0 0] }).push { cls := .type "enumerate", data := .fields #[.none, .bool false, .ref s.heap.objs.size, rawInt 0, .none, .none] } }) :=
  .of_wp fun prog w A R s h => by
    obtain ⟨hp, g, d, tk, os⟩ := s
    obtain ⟨hl, h⟩ := h
    have hsub := sub_enumerate
    have hL : Heap.IsTuple (Shared.heap ⟨hp, g, d, tk, os⟩) l items := ⟨_, hl, rfl, n, rfl⟩
    wp_walk using wpAny_loadPart' hl
    refine wpAny_stack_any fun st => wpAny_pure ?_
    split
    · rename_i c _ _ _ _ _
      cases (c == Value.type "enumerate")
      · wp_walk using wpAny_loadPart' hl, wpAny_pyIter_tuple hL
        exact ⟨_, rfl, h⟩
      · wp_walk using wpAny_loadPart' hl, wpAny_pyIter_tuple hL
        exact ⟨_, rfl, h⟩
    · wp_walk using wpAny_loadPart' hl, wpAny_pyIter_tuple hL
      exact ⟨_, rfl, h⟩
end BR
end
section
set_option Elab.async false
set_option maxRecDepth 100000
set_option maxHeartbeats 1000000
namespace BR
open PySem PySem.Spec PyProof.Rows L2
theorem call_enumT {prog : Program} {w : World} {A : Around} {E : Value → Shared → Prop} {s : Shared} {l : Addr} {items : Array Value} {Q : Value → Shared → Prop} (hL : s.heap.IsTuple l items)
    (h : ∀ h', IsEnum h' (s.heap.objs.size + 1) s.heap.objs.size 0 .none → kIt .t h' s.heap.objs.size l 0 →
      (∀ b o, s.heap.get? b = some o → h'.get? b = some o) → Q (.ref (s.heap.objs.size + 1)) { s with heap := h' }) :
    wpAny (model prog w) A (call (.type "enumerate") [.ref l]) Q E s := by
  obtain ⟨⟨c, dct, dt, sl⟩, hl, hc, n, hd⟩ := hL
  have hc : c = .type "tuple" := hc
  have hd : dt = .seq items n := hd
  subst hc hd
  refine callType_new F.called_enumerate (by decide) (F.typeCall_enumerate_1 _) (F.newCall_enumerate_1 _) (fun obj => F.args_object_init_2 obj _) F.entry_enumerate_new
    (meets_enumT l items n dct sl) ⟨hl, ?_⟩
  have hz : (s.heap.push { cls := .type "tuple_iterator", data := .fields #[.ref l, .int 0 0] }).objs.size = s.heap.objs.size + 1 := Heap.size_push ..
  show _ ∧ _
  rw [hz]
  have he : IsEnum ((s.heap.push { cls := .type "tuple_iterator", data := .fields #[.ref l, .int 0 0] }).push { cls := .type "enumerate", data := .fields #[.none, .bool false, .ref s.heap.objs.size, rawInt 0, .none, .none] }) (s.heap.objs.size + 1) s.heap.objs.size 0 .none := by
    have q := Heap.get?_push_size (s.heap.push { cls := .type "tuple_iterator", data := .fields #[.ref l, .int 0 0] }) (o := { cls := .type "enumerate", data := .fields #[.none, .bool false, .ref s.heap.objs.size, rawInt 0, .none, .none] }) rfl
    rw [hz] at q
    exact q
  exact ⟨⟨_, he, rfl⟩, h _ he (kIt_zero (k := .t) (Heap.get?_push_of_some _ (Heap.get?_push_size _ rfl))) fun b o x => Heap.get?_push_of_some _ (Heap.get?_push_of_some _ x)⟩
def IteT (K : PySem.W.Frag) (a : Addr) : It :=
  ⟨fun i H => ∃ (xs : List V) (x : V), SqT K H a xs ∧ xs[i]? = some x, fun i H v H' => ∃ T x, v = .ref T ∧ H T = none ∧ H' = upd H T (.tup [.int (i : Nat), x]) ∧ ∀ xs, SqT K H a xs → xs[i]? = some x, fun i H => ∃ xs : List V, SqT K H a xs ∧ xs.length = i⟩
theorem turn_enumT {P : Program} {w : World} {K : PySem.W.Frag} {elts : List Expr} {kk : Nat} {tpos : Pos} (a e it : Addr) (hne : e ≠ it) (hea : e ≠ a) (hia : a ≠ it) :
    Turn P w K (.Tuple elts kk tpos) (IteT K a) [e, it] e (fun i h => (∃ old, IsEnum h e it ((i : Nat) : Int) old) ∧ kIt .t h it a i) where
  mem := by simp
  obj := fun i h st b hb => by
    obtain ⟨⟨old, he⟩, hi⟩ := st
    have e' : b = e ∨ b = it := by simpa using hb
    rcases e' with z | z
    · rw [z]; exact ⟨_, he, fun v q => nomatch q⟩
    · rw [z]; exact kIt_obj hi
  keep := fun i h h' st k => by
    obtain ⟨⟨old, he⟩, hi⟩ := st
    exact ⟨⟨old, k e (by simp) _ he⟩, kIt_at hi fun o q => k it (by simp) o q⟩
  item := by
    intro X hP hw hK hc i pins s σ H E I hf st hg
    subst hP hw hK
    obtain ⟨⟨old, he⟩, hit⟩ := st
    obtain ⟨xs, x, hq, hx⟩ := hg
    obtain ⟨its, rv, p, hz⟩ := I.tuple hq
    obtain ⟨u, hu, ru⟩ := rv.get hx
    have hel : e < s.heap.objs.size := Heap.lt_size he
    have hil : it < s.heap.objs.size := by
      obtain ⟨_, q, _⟩ := kIt_obj hit
      exact Heap.lt_size q
    have nin : e ∉ [it, a] := fun z => by
      rcases List.mem_cons.mp z with z | z
      · exact hne z
      · exact hea (List.mem_singleton.mp z)
    refine wpAny_pyNext_enum_itemC (kDraws (A := X.A.in1) (I.ok.hd hc) .t it a hia its.toArray) he ⟨hit, p⟩ (ix_lt hu) hne nin fun u1 h' tk e1 ho hit' hT hsz hk => ?_
    obtain rfl := ix_some hu e1
    refine ⟨_, rfl, wpAny_letOwnedTupleGo_enum (s := { s with heap := h', toks := tk + 1 }) ho fun h'' he' sb => ?_⟩
    have hT2 : h''.get? s.heap.objs.size = some { cls := .type "tuple", data := .seq #[.int i tk, u1] } := (sb.2 _ (Nat.ne_of_gt hel)).trans hT
    have new : ObjOk X.prog X.w (upd H s.heap.objs.size (.tup [.int (i : Nat), x])) h'' s.heap.objs.size (.tup [.int (i : Nat), x]) :=
      ⟨by show 2 ≤ sizeLine; decide, [.int i tk, u1], .cons ⟨_, rfl⟩ (.cons ru .nil), ⟨_, hT2, rfl, _, rfl⟩⟩
    have I1 : Inv X pins σ (upd H s.heap.objs.size (.tup [.int (i : Nat), x])) { s with heap := h'', toks := tk + 1 } :=
      I.turnedNew (ch := [e, it]) (fun b ob hb q => (sb.2 b (fun z => hb (by simp [z]))).trans (hk b ob (fun z => hb (by simp [z])) (fun z => hb (by simp [z])) q)) hf (Nat.le_refl _) new
    refine ⟨.ref s.heap.objs.size, _, I1, rfl, ⟨_, x, rfl, I.hok.fresh (Nat.le_refl _), rfl, fun ys hy => by rw [I.tuple_inj hy hq]; exact hx⟩, ⟨⟨u1, ?_⟩, kIt_at hit'.1 fun o q => (sb.2 it (Ne.symm hne)).trans q⟩, fun b hb => ?_⟩
    · rw [show ((i + 1 : Nat) : Int) = (i : Int) + 1 by omega]
      exact he'
    · have hb' : b < s.heap.objs.size := by
        have e' : b = e ∨ b = it := by simpa using hb
        rcases e' with z | z
        · rw [z]; exact hel
        · rw [z]; exact hil
      rw [upd_ne (Nat.ne_of_lt hb')]
      exact (hf b hb).1
  done := by
    intro X hP hw hK hc i pins s σ H E I hf st hg
    subst hP hw hK
    obtain ⟨⟨old, he⟩, hit⟩ := st
    obtain ⟨xs, hq, hx⟩ := hg
    obtain ⟨its, rv, p, hz⟩ := I.tuple hq
    have e1 : i = its.toArray.size := by rw [List.size_toArray, ← rv.length]; exact hx.symm
    obtain ⟨f0, f1, f2, f3, f4, f5⟩ := hf it (by simp)
    exact wpAny_pyNext_enum_endD (kDraws (A := X.A.in1) (I.ok.hd hc) .t it a hia its.toArray) he ⟨e1 ▸ hit, p⟩ fun h' eb => ⟨rfl, I.turned (t' := s.toks) (fun b o hb q => eb b o hb q) f0 f1 f3 f4 f5⟩
  self := fun A i s Q E st h => by
    obtain ⟨⟨_, he⟩, _⟩ := st
    exact wpAny_pyIter_enum he h
theorem walk_enumT {K : PySem.W.Frag} {a : Addr} {xs : List V} : Walk (IteT K a) xs.length (fun H => SqT K H a xs) (YPair (fun i => some (.int (i : Nat))) (fun i => xs[i]?)) := by
  refine ⟨fun i H hi q => ⟨xs, xs[i], q, List.getElem?_eq_getElem hi⟩, fun H q => ⟨xs, q, rfl⟩, fun i H v H' hi q y => ?_⟩
  obtain ⟨T, x, e1, e2, e3, f1⟩ := y
  exact ⟨T, .int (i : Nat), x, e1, e2, e3, rfl, f1 xs q⟩
def iEnumT (K : PySem.W.Frag) (ta : TA) : TI := fun σ H R => ta σ H fun vs H1 => ∃ a xs, vs = [.ref a] ∧ SqT K H1 a xs ∧ R (IteT K a) H1
section
variable {X : Cx}
theorem pi_enumT {e : Expr} {ta : TA} {p pos tpos : Pos} {elts : List Expr} {kk : Nat} (hm : X.mg "enumerate" = none) (ha : PA X [e] ta) (hg : Gl X "enumerate" := by rfl) (hs : starEach [e] X.env = [(false, eval e X.env)] := by rfl) :
    PI X (.Tuple elts kk tpos) (.Call (.Name "enumerate" p) [e] [] pos) (iEnumT X.K ta) := by
  refine ⟨fun pins s σ H R I h => ?_⟩
  refine Call_ (ld_blt I hg hm PyProof.Rows.boot_enumerate (PyProof.Rows.callWith_type1 (thn (ha.run pos pins s σ H _ I h) fun us s1 ⟨vs, H1, I1, r1, q1⟩ => ?_) hs rfl))
  obtain ⟨a, xs, ex, hq, q⟩ := q1
  subst ex
  have r2 := Vals.ref1 r1
  subst r2
  obtain ⟨its, rv, p1, la⟩ := sqK_get (k := .t) I1 hq
  refine call_enumT p1 fun h' he hit hk => wpAny_pyIter_enum he ?_
  have I2 : Inv X pins σ H1 { s1 with heap := h' } := I1.kept (t' := s1.toks) hk
  exact ⟨s1.heap.objs.size + 1, _, _, _, H1, rfl, I2, turn_enumT a (s1.heap.objs.size + 1) s1.heap.objs.size (Nat.succ_ne_self _) (Nat.ne_of_gt (Nat.lt_succ_of_lt la)) (Nat.ne_of_lt la), ⟨⟨_, he⟩, hit⟩, fun c hcm => fresh_at I1 (l := [1, 0]) hcm, q⟩
end
end BR
end
section
/-! Rows of payments: sums, values, worths and slopes as the program reckons them. -/
namespace BR
def horner (x : Rat) : List Rat → Rat
  | [] => 0
  | c :: cs => horner x cs * x + c
def sumL : List Rat → Rat
  | qs => qs.foldl (· + ·) 0
theorem horner_sz {k m : Nat} {x : Rat} (hx : Sz m x) : ∀ {ps : List Rat}, SzR k ps → Sz ((k + m + 1) * ps.length + 1) (horner x ps)
  | [], _ => Sz.zero (Nat.le_refl _)
  | c :: cs, h => by
    have ih := horner_sz hx (ps := cs) fun q hq => h q (List.mem_cons_of_mem _ hq)
    have hc := h c List.mem_cons_self
    refine ((ih.mul hx).add hc).mono ?_
    rw [List.length_cons, Nat.mul_succ]
    omega
theorem horner_drop {x : Rat} {ps : List Rat} {n : Nat} (h : n < ps.length) : horner x (ps.drop n) = horner x (ps.drop (n + 1)) * x + ps[n] := by
  rw [List.drop_eq_getElem_cons h]
  rfl
theorem foldl_add : ∀ (qs : List Rat) (z : Rat), qs.foldl (· + ·) z = z + qs.foldl (· + ·) 0
  | [], z => by
    show z = z + 0
    grind
  | q :: qs, z => by
    show qs.foldl (· + ·) (z + q) = z + qs.foldl (· + ·) (0 + q)
    rw [foldl_add qs (z + q), foldl_add qs (0 + q)]
    grind
theorem sumL_nil : sumL [] = 0 := rfl
theorem sumL_cons (q : Rat) (qs : List Rat) : sumL (q :: qs) = q + sumL qs := by
  show qs.foldl (· + ·) (0 + q) = q + qs.foldl (· + ·) 0
  rw [foldl_add qs (0 + q)]
  grind
theorem sumL_snoc : ∀ (qs : List Rat) (q : Rat), sumL (qs ++ [q]) = sumL qs + q
  | [], q => by
    rw [List.nil_append, sumL_cons, sumL_nil]
    grind
  | p :: qs, q => by
    rw [List.cons_append, sumL_cons, sumL_snoc qs q, sumL_cons]
    grind
theorem sumL_sz {k : Nat} : ∀ {qs : List Rat}, SzR k qs → Sz ((k + 1) * qs.length + 1) (sumL qs)
  | [], _ => Sz.zero (Nat.le_refl _)
  | q :: qs, h => by
    have ih := sumL_sz (qs := qs) fun p hp => h p (List.mem_cons_of_mem _ hp)
    have hq := h q List.mem_cons_self
    rw [sumL_cons]
    refine (hq.add ih).mono ?_
    rw [List.length_cons, Nat.mul_succ]
    omega
theorem SzR.take {k : Nat} {r : List Rat} (h : SzR k r) (n : Nat) : SzR k (r.take n) := fun q hq => h q (List.mem_of_mem_take hq)
theorem SzR.drop {k : Nat} {r : List Rat} (h : SzR k r) (n : Nat) : SzR k (r.drop n) := fun q hq => h q (List.mem_of_mem_drop hq)
theorem SzR.nil {k : Nat} : SzR k [] := fun q hq => by cases hq
theorem SzR.cons {k : Nat} {r : List Rat} {q : Rat} (hq : Sz k q) (h : SzR k r) : SzR k (q :: r) := fun p hp => by
  rcases List.mem_cons.mp hp with e | e
  · rw [e]; exact hq
  · exact h p e

/-! ### zeros at the end -/
def trimN (l : List Rat) : Nat → Nat
  | 0 => 0
  | n + 1 => if l[n]? = some 0 then trimN l n else n + 1
def trimL (l : List Rat) : List Rat := l.take (trimN l l.length)
theorem trimN_le (l : List Rat) : ∀ n, trimN l n ≤ n
  | 0 => Nat.le_refl _
  | n + 1 => by
    unfold trimN
    split
    · exact Nat.le_succ_of_le (trimN_le l n)
    · exact Nat.le_refl _
theorem trimN_zero {l : List Rat} {n : Nat} (h : l[n]? = some 0) : trimN l (n + 1) = trimN l n := if_pos h
theorem trimN_stop {l : List Rat} {n : Nat} (h : ¬ l[n]? = some 0) : trimN l (n + 1) = n + 1 := if_neg h
/-- the products by the powers, without the first -/
def powL (ps : List Rat) : List Rat := ps.mapIdx fun i q => q * (i : Rat)
def derivL (ps : List Rat) : List Rat := trimL ((powL ps).drop 1)
theorem natCast_num (i : Nat) : ((i : Nat) : Rat).num = (i : Int) ∧ ((i : Nat) : Rat).den = 1 := ⟨Rat.num_natCast i, Rat.den_natCast i⟩
theorem sz_nat {i n : Nat} (h : i < 2 ^ n) (hn : 1 ≤ n) : Sz n ((i : Nat) : Rat) := by
  have h1 : 2 ^ 1 ≤ 2 ^ n := Nat.pow_le_pow_right (by decide) hn
  refine ⟨?_, ?_⟩
  · rw [Rat.num_natCast, Int.natAbs_natCast]
    exact h
  · rw [Rat.den_natCast]
    omega
theorem powL_len (ps : List Rat) : (powL ps).length = ps.length := List.length_mapIdx ..
theorem powL_sz {k : Nat} {ps : List Rat} (h : SzR k ps) (hl : ps.length ≤ 16) : SzR (k + 5) (powL ps) := by
  intro q hq
  obtain ⟨i, hi, e⟩ := List.mem_mapIdx.mp hq
  rw [← e]
  exact (h _ (List.getElem_mem hi)).mul (sz_nat (n := 5) (by omega) (by decide))
theorem derivL_len (ps : List Rat) : (derivL ps).length ≤ ps.length := by
  unfold derivL trimL
  rw [List.length_take, List.length_drop, powL_len]
  omega
theorem derivL_sz {k : Nat} {ps : List Rat} (h : SzR k ps) (hl : ps.length ≤ 16) : SzR (k + 5) (derivL ps) := ((powL_sz h hl).drop 1).take _

/-! ### worth, slope -/
def botF (w v : Rat) : Rat := v + w * (1 - v)
def worthF (ps : List Rat) (w v : Rat) : Rat := v / botF w v * horner v ps
def slopeF (ps : List Rat) (w v : Rat) : Rat :=
  ((horner v ps + v * horner v (derivL ps)) * botF w v - v * horner v ps * (1 - w)) / (botF w v * botF w v)
/-- a factor, a rest -/
structure VW (v w : Rat) : Prop where
  v0 : 0 < v
  w0 : 0 ≤ w
  w1 : w ≤ 1
  sv : Sz 10 v
  sw : Sz 10 w
theorem VW.bot {v w : Rat} (h : VW v w) : botF w v ≠ 0 := by
  have h1 := h.v0
  have h2 := h.w0
  have h3 := h.w1
  have e : botF w v = v * (1 - w) + w := by
    unfold botF
    grind
  have h4 : 0 ≤ v * (1 - w) := Rat.mul_nonneg (Rat.le_of_lt h1) (by grind)
  intro z
  rw [e] at z
  have hw : w = 0 := by grind
  subst hw
  grind
/-- a row of payments as the law draws it -/
structure RowOk (ps : List Rat) : Prop where
  len : ps.length ≤ 6
  sz : SzR 40 ps
theorem bot_sz {v w : Rat} (h : VW v w) : Sz 33 (botF w v) := (h.sv.add (h.sw.mul ((Sz.one (Nat.le_refl 1)).sub h.sv))).mono (by decide)
theorem val_sz {v w : Rat} {ps : List Rat} (h : VW v w) (r : RowOk ps) : Sz 307 (horner v ps) := (horner_sz h.sv r.sz).mono (by have := r.len; omega)
theorem rise_sz {v w : Rat} {ps : List Rat} (h : VW v w) (r : RowOk ps) : Sz 337 (horner v (derivL ps)) :=
  (horner_sz h.sv (derivL_sz r.sz (by have := r.len; omega))).mono (by have := derivL_len ps; have := r.len; omega)
theorem worth_sz {v w : Rat} {ps : List Rat} (h : VW v w) (r : RowOk ps) : Sz 350 (worthF ps w v) := ((h.sv.div (bot_sz h)).mul (val_sz h r)).mono (by decide)
theorem slope_sz {v w : Rat} {ps : List Rat} (h : VW v w) (r : RowOk ps) : Sz 1200 (slopeF ps w v) := by
  have a := ((val_sz h r).add (h.sv.mul (rise_sz h r))).mul (bot_sz h)
  have b := (h.sv.mul (val_sz h r)).mul ((Sz.one (Nat.le_refl 1)).sub h.sw)
  exact ((a.sub b).div ((bot_sz h).mul (bot_sz h))).mono (by decide)
end BR
end
section
set_option Elab.async false
set_option maxRecDepth 100000
namespace BR
open PySem PySem.Spec PyProof.Rows L2

theorem walk_revT {K : PySem.W.Frag} {a : Addr} {xs : List V} : Walk (RT.ItvT K a xs.length) xs.length (fun H => SqT K H a xs) (fun i H x H' => H' = H ∧ xs[xs.length - 1 - i]? = some x) :=
  ⟨fun i _ hi q => ⟨hi, xs, xs[xs.length - 1 - i]'(by omega), q, List.getElem?_eq_getElem _⟩, fun _ _ => Nat.le_refl _, fun _ _ _ _ _ q y => ⟨y.1, y.2 xs q⟩⟩
theorem sz_small {n : Nat} {q : Rat} (h : Sz n q) (hn : n ≤ 400000) : Sz BB q := h.mono hn
section
variable {P : Program} {w : World} {K : PySem.W.Frag} {mg : Str → Option Value} {base : Heap}

/-! ### value_at -/
def spValueAt (K : PySem.W.Frag) : Sp := fun vs H Q _ => ∃ p x ps q k m, vs = [p, x] ∧ TupF K H p ps ∧ Fr K H x q ∧ SzR k ps ∧ Sz m q ∧ k ≤ 5000 ∧ m ≤ 5000 ∧ ps.length ≤ 20 ∧ ∀ v H', Same H H' → Fr K H' v (horner q ps) → Q v H'
theorem scValueAt : FnScope ["p", "x", "found", "part"] ["p", "x"] (defScope (topS 15)) := ⟨rfl, rfl, rfl, by decide +kernel, rfl, by decide +kernel, by decide +kernel⟩
theorem d_valueAt (T : Tx P K mg base) : Def P w K mg base "value_at" 43 ["p", "x"] (spValueAt K) := by
  obtain ⟨f, fd, hm, F⟩ := T.valueAt
  refine ⟨f, fd, hm, F.kp, F.binds (ps := ["p", "x"]) fun _ _ _ _ _ _ us hl => match us, hl with | [_, _], _ => rfl, F.ok scValueAt (fun vs H Q E h => ?_) (fun cdv A outer s H vs Q E hr h => ?_)⟩
  · obtain ⟨p, x, ps, q, k, m, rfl, _⟩ := h
    rfl
  · obtain ⟨_, x, ps, q, k, m, rfl, ⟨a, pvs, rfl, hS, hF⟩, hx, hk, hm, k5, m5, hl, kk⟩ := h
    obtain ⟨z0, mz, sz0⟩ := T.zero
    refine ⟨_, pss_cons (ps_set (i := 2) scValueAt.nd rfl (.inl rfl) (pe_glob (v := .ref z0) rfl mz rfl))
      (pss_cons (ps_for PassesOwn.never rfl (RT.pi_revA rfl T.bReversed (pv 0)) (pg_name (i := 3) scValueAt.nd rfl (.inl rfl))
        (pss_one (ps_set (i := 2) scValueAt.nd rfl (.inl rfl) (pe_def (d_plus T) (hr.mono (by decide)) (pa_cons (pe_def (d_times T) (hr.mono (by decide)) (pa_cons (pv 2) (pa_cons (pv 1) pa_nil))) (pa_cons (pv 3) pa_nil))))))
      (pss_one (ps_ret (pv 2)))), ?_⟩
    refine ⟨_, rfl, a, pvs, rfl, .inr ⟨hS, for_it (walk_revT (K := K) (a := a) (xs := pvs)) (fun i σ H' => ∃ f y, σ = [some (.ref a), some x, some f, y] ∧ Same H H' ∧ Fr K H' f (horner q (ps.drop (pvs.length - i))))
      ⟨_, none, rfl, .refl H, ?_⟩ (fun i σ H' _ ⟨_, _, _, e, _⟩ => sqT_tk (.same e) hS) ?_ ?_⟩⟩
    · rw [Nat.sub_zero, hF.len, List.drop_length]
      exact fr_zero sz0
    · rintro i c σ H1 H2 hi ⟨f, y, rfl, e1, hf⟩ ⟨rfl, hc⟩
      obtain ⟨r, hr1, hfr⟩ := hF.getV hc
      have hn : pvs.length - 1 - i < ps.length := (List.getElem?_eq_some_iff.mp hr1).1
      have er : ps[pvs.length - 1 - i] = r := (List.getElem?_eq_some_iff.mp hr1).2
      have len := hF.len
      have step : horner q (ps.drop (pvs.length - (i + 1))) = horner q (ps.drop (pvs.length - i)) * q + r := by
        have e2 : pvs.length - (i + 1) = pvs.length - 1 - i := by omega
        have e3 : pvs.length - i = pvs.length - 1 - i + 1 := by omega
        rw [e2, e3, horner_drop hn, er]
      have sf := horner_sz hm (hk.drop (pvs.length - i))
      have lf : (ps.drop (pvs.length - i)).length ≤ 20 := by rw [List.length_drop]; omega
      have b1 : (k + m + 1) * (ps.drop (pvs.length - i)).length ≤ 10001 * 20 := Nat.mul_le_mul (by omega) lf
      refine ⟨_, rfl, _, rfl, _, _, _, _, rfl, hf, hx.same e1, sz_small sf (by omega), sz_small hm (by omega), trivial, fun v3 H3 e3 f3 => ?_⟩
      refine ⟨_, rfl, _, _, _, _, rfl, f3, hfr.same (e1.trans e3), sz_small (sf.mul hm) (by omega), sz_small (hk r (List.mem_of_getElem? hr1)) (by omega), trivial, fun v4 H4 e4 f4 => ?_⟩
      exact ⟨v4, some c, rfl, (e1.trans e3).trans e4, by rw [step]; exact f4⟩
    · rintro σ H1 ⟨f, y, rfl, e1, hf⟩
      refine ⟨_, rfl, kk _ _ e1 ?_⟩
      rw [Nat.sub_self, List.drop_zero] at hf
      exact hf
/-! ### sum_all -/
def spSumAll (K : PySem.W.Frag) : Sp := fun vs H Q _ => ∃ a qs k, vs = [.ref a] ∧ LstF K H a qs ∧ SzR k qs ∧ k ≤ 36000 ∧ qs.length ≤ 10 ∧ ∀ v H', Same H H' → Fr K H' v (sumL qs) → Q v H'
theorem scSumAll : FnScope ["some", "found", "one"] ["some"] (defScope (topS 11)) := ⟨rfl, rfl, rfl, by decide +kernel, rfl, by decide +kernel, by decide +kernel⟩
theorem d_sumAll (T : Tx P K mg base) : Def P w K mg base "sum_all" 43 ["some"] (spSumAll K) := by
  obtain ⟨f, fd, hm, F⟩ := T.sumAll
  refine ⟨f, fd, hm, F.kp, F.binds (ps := ["some"]) fun _ _ _ _ _ _ us hl => match us, hl with | [_], _ => rfl, F.ok scSumAll (fun vs H Q E h => ?_) (fun cdv A outer s H vs Q E hr h => ?_)⟩
  · obtain ⟨a, qs, k, rfl, _⟩ := h
    rfl
  · obtain ⟨a, qs, k, rfl, ⟨vs, hL, hF⟩, hk, k3, hl, kk⟩ := h
    obtain ⟨z0, mz, sz0⟩ := T.zero
    refine ⟨_, pss_cons (ps_set (i := 1) scSumAll.nd rfl (.inl rfl) (pe_glob (v := .ref z0) rfl mz rfl))
      (pss_cons (ps_for PassesOwn.never rfl (pi_list (pv 0)) (pg_name (i := 2) scSumAll.nd rfl (.inl rfl))
        (pss_one (ps_set (i := 1) scSumAll.nd rfl (.inl rfl) (pe_def (d_plus T) (hr.mono (by decide)) (pa_cons (pv 1) (pa_cons (pv 2) pa_nil))))))
      (pss_one (ps_ret (pv 1)))), ?_⟩
    refine ⟨_, rfl, a, rfl, ⟨_, .of hL⟩, for_it (walk_list (K := K) (a := a) (xs := vs)) (fun i σ H' => ∃ f y, σ = [some (.ref a), some f, y] ∧ Same H H' ∧ Fr K H' f (sumL (qs.take i)))
      ⟨_, none, rfl, .refl H, fr_zero sz0⟩ (fun i σ H' _ ⟨_, _, _, e, _⟩ => e.seq (.of hL)) ?_ ?_⟩
    · rintro i c σ H1 H2 hi ⟨f, y, rfl, e1, hf⟩ ⟨rfl, hc⟩
      obtain ⟨r, hr1, hfr⟩ := hF.getV hc
      have step : sumL (qs.take (i + 1)) = sumL (qs.take i) + r := by
        rw [List.take_add_one, hr1]
        exact sumL_snoc _ _
      have sf := sumL_sz (hk.take i)
      have lf : (qs.take i).length ≤ 10 := by rw [List.length_take]; omega
      have b1 : (k + 1) * (qs.take i).length ≤ 36001 * 10 := Nat.mul_le_mul (by omega) lf
      refine ⟨_, rfl, _, rfl, _, _, _, _, rfl, hf, hfr.same e1, sz_small sf (by omega), sz_small (hk r (List.mem_of_getElem? hr1)) (by omega), trivial, fun v3 H3 e3 f3 => ?_⟩
      exact ⟨v3, some c, rfl, e1.trans e3, by rw [step]; exact f3⟩
    · rintro σ H1 ⟨f, y, rfl, e1, hf⟩
      refine ⟨_, rfl, kk _ _ e1 ?_⟩
      rw [hF.len, List.take_length] at hf
      exact hf
end
end BR
end
section
set_option Elab.async false
set_option maxRecDepth 100000
namespace BR
open PySem PySem.Spec PyProof.Rows L2
theorem iteT' {A B : Prop} (h : if true = true then A else B) : A := by
  rw [if_pos rfl] at h
  exact h
theorem iteF' {A B : Prop} (h : if false = true then A else B) : B := by
  rw [if_neg Bool.false_ne_true] at h
  exact h
theorem cut_to (xs : List V) (n : Nat) : cutV xs none (some (n : Int)) = xs.take n := by
  unfold cutV
  rw [HT.sIx_none, HT.sIx_nat, List.drop_zero, Nat.sub_zero]
  rcases Nat.le_total n xs.length with h | h
  · rw [Nat.min_eq_left h]
  · rw [Nat.min_eq_right h, List.take_length, List.take_of_length_le h]
theorem cut_from (xs : List V) (n : Nat) : cutV xs (some (n : Int)) none = xs.drop n := by
  unfold cutV
  rw [HT.sIx_none, HT.sIx_nat]
  rcases Nat.le_total n xs.length with h | h
  · rw [Nat.min_eq_left h]
    exact List.take_of_length_le (by rw [List.length_drop]; omega)
  · rw [Nat.min_eq_right h, List.drop_length, List.drop_of_length_le h, List.take_nil]
section
variable {P : Program} {w : World} {K : PySem.W.Frag} {mg : Str → Option Value} {base : Heap}

/-! ### trimmed -/
def spTrimmed (K : PySem.W.Frag) : Sp := fun vs H Q _ => ∃ a qs, vs = [.ref a] ∧ LstF K H a qs ∧ qs.length ≤ 1000 ∧ ∀ v H', Same H H' → TupF K H' v (trimL qs) → Q v H'
theorem scTrimmed : FnScope ["some", "count"] ["some"] (defScope (topS 14)) := ⟨rfl, rfl, rfl, by decide +kernel, rfl, by decide +kernel, by decide +kernel⟩
theorem d_trimmed (T : Tx P K mg base) : Def P w K mg base "trimmed" 1 ["some"] (spTrimmed K) := by
  obtain ⟨f, fd, hm, F⟩ := T.trimmed
  refine ⟨f, fd, hm, F.kp, F.binds (ps := ["some"]) fun _ _ _ _ _ _ us hl => match us, hl with | [_], _ => rfl, F.ok scTrimmed (fun vs H Q E h => ?_) (fun cdv A outer s H vs Q E hr h => ?_)⟩
  · obtain ⟨a, qs, rfl, _⟩ := h
    rfl
  · obtain ⟨a, qs, rfl, ⟨vs, hL, hF⟩, hl, kk⟩ := h
    obtain ⟨z0, mz, sz0⟩ := T.zero
    refine ⟨_, pss_cons (ps_set (i := 1) scTrimmed.nd rfl (.inl rfl) (pe_callB call_len_seq (by rfl) T.bLen PySem.boot_len (pa_cons (pv 0) pa_nil)))
      (pss_cons (ps_while PassesOwn.never (PW.pt (pw_and (pt_cmpR op_gt (pv 1) pe_int (nomark _)) (pw_and1 (pt_cmpR (op_eqF hr) (pe_ix ix_list (pv 0) (pe_op op_sub (pv 1) pe_int) fun _ _ => rfl) (pe_glob (v := .ref z0) rfl mz rfl) (nomark _)))))
        (pss_one (ps_aug (i := 1) scTrimmed.nd rfl (.inl rfl) pe_int ip_sub)))
      (pss_one (ps_ret (pe_callTy call_tuple_of (by rfl) T.bTuple PyProof.Rows.boot_tuple (pa_cons (pe_slice sl_list (pv 0) po_none (po_some (pv 1))) pa_nil))))), ?_⟩
    have fin : ∀ n : Nat, trimN qs n = trimN qs qs.length → trimN qs n = n → ∀ p, H p = none → ∀ l, upd H p (.lst (cutV vs none (some (n : Int)))) l = none →
        Q (.ref l) (upd (upd H p (.lst (cutV vs none (some (n : Int))))) l (.tup (cutV vs none (some (n : Int))))) := fun n ht e p np l nl => by
      rw [cut_to] at nl ⊢
      refine kk _ _ ((same_new np).trans (same_new nl)) ⟨l, _, rfl, .of upd_same, ?_⟩
      unfold trimL
      rw [← ht, e]
      exact (hF.take _).same ((same_new np).trans (same_new nl))
    refine ⟨_, rfl, a, vs, rfl, .inl (.of hL), ?_⟩
    refine while_by (fun σ H' => ∃ n : Nat, σ = [some (.ref a), some (.int (n : Int))] ∧ H' = H ∧ n ≤ qs.length ∧ trimN qs n = trimN qs qs.length) (fun σ _ => match σ with | [_, some (.int y)] => y.natAbs | _ => 0)
      ⟨vs.length, rfl, rfl, Nat.le_of_eq hF.len, by rw [hF.len]⟩ ?_ ?_
    · rintro σ H' ⟨n, rfl, rfl, hn, ht⟩
      refine ⟨_, rfl, _, _, rfl, rfl, _, rfl, ?_⟩
      match n, hn, ht with
      | 0, hn, ht => exact iteBF (by decide) (iteF ⟨_, rfl, _, rfl, _, rfl, a, vs, rfl, .of hL, fun p np => ⟨p, _, rfl, .inl ⟨.of upd_same, fin 0 ht rfl p np⟩⟩⟩)
      | n + 1, hn, ht =>
        refine iteB (decide_eq_true (by omega)) ?_
        have hn2 : n < qs.length := by omega
        obtain ⟨v, hv, hfv⟩ := hF.get (List.getElem?_eq_getElem hn2)
        have hi : (((n + 1 : Nat) : Int) - 1) = ((n : Nat) : Int) := by omega
        refine ⟨_, rfl, _, rfl, _, _, rfl, rfl, a, vs, _, v, rfl, rfl, .of hL, by rw [hi]; exact atI_nat hv, _, _, hfv, fr_zero sz0, _, rfl, ?_⟩
        by_cases hz : qs[n] = 0
        · refine iteB (decide_eq_true hz) ⟨_, rfl, _, _, rfl, rfl, ⟨n, ?_, rfl, by omega, ?_⟩, ?_⟩
          · show ([some (V.ref a), some (V.int (((n + 1 : Nat) : Int) - 1))] : L2.St) = _
            rw [hi]
          · rw [← ht]
            exact (trimN_zero (by rw [List.getElem?_eq_getElem hn2, hz])).symm
          · show ((((n + 1 : Nat) : Int) - 1)).natAbs < (((n + 1 : Nat) : Int)).natAbs
            omega
        · exact iteBF (decide_eq_false hz) ⟨_, rfl, _, rfl, _, rfl, a, vs, rfl, .of hL, fun p np => ⟨p, _, rfl, .inl ⟨.of upd_same, fin (n + 1) ht (trimN_stop (by rw [List.getElem?_eq_getElem hn2]; exact fun z => hz (Option.some.inj z))) p np⟩⟩⟩
    · rintro σ H' Q Q' hQ ⟨v, e, i, j, e1, e2, k, e3, h⟩
      refine ⟨v, e, i, j, e1, e2, k, e3, ?_⟩
      cases k with
      | true =>
        obtain ⟨v1, a1, v2, a2, i1, i2, a3, a4, p, xs, i3, v3, a5, a6, a7, a8, q1, q2, a9, b1, k2, b2, b3⟩ := (iteT' h)
        exact iteT ⟨v1, a1, v2, a2, i1, i2, a3, a4, p, xs, i3, v3, a5, a6, a7, a8, q1, q2, a9, b1, k2, b2, hQ _ _ b3⟩
      | false => exact iteF (hQ _ _ (iteF' h))
end
end BR
end
section
set_option Elab.async false
set_option maxRecDepth 100000
namespace BR
open PySem PySem.Spec PyProof.Rows L2
/-- all but what stands at D is kept, tuples wherever they stand -/
structure Bt (D : Addr) (H H' : Hp) : Prop where
  tk : Tk H H'
  but : ∀ b o, b ≠ D → H b = some o → H' b = some o
theorem Bt.same {D : Addr} {H H' : Hp} (e : Same H H') : Bt D H H' := ⟨.same e, fun b o _ h => e b o h⟩
theorem Bt.put {D : Addr} {H : Hp} {xs : List V} {o : HO} (h : H D = some (.lst xs)) : Bt D H (upd H D o) := ⟨.lst h, fun b o hb e => by rw [upd_ne hb]; exact e⟩
/-- what stood ahead of the new list stands behind a store to it -/
theorem same_put {D : Addr} {H1 H : Hp} {o : HO} (nD : H1 D = none) (e : Same H1 H) : Same H1 (upd H D o) := fun b u h => by
  rw [upd_ne (ne_of_none h nD)]
  exact e b u h
/-- a list comprehension without tests: the i-th item is R i -/
theorem lc_gen {J : It} {n : Nat} {G : Hp → Prop} {Y : Nat → Hp → V → Hp → Prop} (w : Walk J n G Y) {g : TG} {te : TE} {vs : List Nat} {σ : L2.St} {H1 : Hp} {D : Addr} {Qd : Hp → Prop}
    (R : Nat → Hp → V → Prop) (nD : H1 D = none) (hz : n ≤ 100000) (hG : ∀ H, Same H1 H → G H)
    (st : ∀ i H H' v, Bt D H H' → R i H v → R i H' v)
    (hs : ∀ i x H H' acc, i < n → Same H1 H → H D = some (.lst acc) → Y i H x H' → ∀ k : V → Hp → Prop, (∀ y H4, Same H H4 → R i H4 y → k y H4) →
      g x (wipe σ vs) H' fun σ2 H2 => wipe σ2 vs = wipe σ vs ∧ te σ2 H2 k)
    (hd : ∀ H ys, Same H1 H → H D = some (.lst ys) → ys.length = n → (∀ i y, ys[i]? = some y → R i H y) → Qd H) :
    ∃ W : Nat → Nat → Hp → Prop, (∃ m, W 0 m (upd H1 D (.lst []))) ∧ ∀ i m H, W i m H →
      (J.stop i H ∧ Qd H) ∨ (J.go i H ∧ ∃ Nx : Hp → Prop, (∀ H', Nx H' → ∃ m', m' < m ∧ W (i + 1) m' H') ∧ ∀ x H', J.yld i H x H' → g x (wipe σ vs) H' fun σ2 H2 => wipe σ2 vs = wipe σ vs ∧ tYes σ2 H2 fun b H3 =>
        if b = true then te σ2 H3 fun y H4 => ∃ acc, H4 D = some (.lst acc) ∧ acc.length < sizeLine ∧ Nx (upd H4 D (.lst (acc ++ [y]))) else Nx H3) := by
  refine lc_it w (fun i H => Same H1 H ∧ ∃ ys, H D = some (.lst ys) ∧ ys.length = i ∧ ∀ j y, ys[j]? = some y → R j H y)
    ⟨same_new nD, [], upd_same, rfl, fun j y h => by simp at h⟩ (fun i H _ h => hG H h.1) ?_ ?_
  · rintro i x H H' hi ⟨e1, ys, hD, hl, hR⟩ y
    have q := hs i x H H' ys hi e1 hD y (fun y H4 => ∃ acc, H4 D = some (.lst acc) ∧ acc.length < sizeLine ∧ (Same H1 (upd H4 D (.lst (acc ++ [y]))) ∧
      ∃ zs, (upd H4 D (.lst (acc ++ [y]))) D = some (.lst zs) ∧ zs.length = i + 1 ∧ ∀ j u, zs[j]? = some u → R j (upd H4 D (.lst (acc ++ [y]))) u)) fun y H4 e4 r4 => ?_
    · exact q
    · have hD4 := e4 D _ hD
      refine ⟨ys, hD4, by rw [hl]; exact Nat.lt_of_lt_of_le hi (Nat.le_trans hz (by decide)), same_put nD (e1.trans e4), ys ++ [y], upd_same, by rw [List.length_append, hl]; rfl, fun j u hj => ?_⟩
      by_cases hj2 : j < ys.length
      · rw [List.getElem?_append_left hj2] at hj
        exact st j _ _ _ (.put hD4) (st j _ _ _ (.same e4) (hR j u hj))
      · have hj3 := (List.getElem?_eq_some_iff.mp hj).1
        rw [List.length_append, List.length_singleton] at hj3
        have ej : j = ys.length := by omega
        subst ej
        rw [List.getElem?_append_right (Nat.le_refl _), Nat.sub_self] at hj
        have eu : y = u := Option.some.inj hj
        subst eu
        rw [hl]
        exact st i _ _ _ (.put hD4) r4
  · rintro H ⟨e1, ys, hD, hl, hR⟩
    exact hd H ys e1 hD hl hR
/-- the items are fractions -/
theorem lc_fr {K : PySem.W.Frag} {J : It} {n : Nat} {G : Hp → Prop} {Y : Nat → Hp → V → Hp → Prop} (w : Walk J n G Y) {g : TG} {te : TE} {vs : List Nat} {σ : L2.St} {H1 : Hp} {D : Addr} {Qd : Hp → Prop}
    (qs : List Rat) (hn : qs.length = n) (nD : H1 D = none) (hz : n ≤ 100000) (hG : ∀ H, Same H1 H → G H)
    (hs : ∀ i x H H' q, qs[i]? = some q → Same H1 H → Y i H x H' → ∀ k : V → Hp → Prop, (∀ y H4, Same H H4 → Fr K H4 y q → k y H4) →
      g x (wipe σ vs) H' fun σ2 H2 => wipe σ2 vs = wipe σ vs ∧ te σ2 H2 k)
    (hd : ∀ H, Same H1 H → LstF K H D qs → Qd H) :
    ∃ W : Nat → Nat → Hp → Prop, (∃ m, W 0 m (upd H1 D (.lst []))) ∧ ∀ i m H, W i m H →
      (J.stop i H ∧ Qd H) ∨ (J.go i H ∧ ∃ Nx : Hp → Prop, (∀ H', Nx H' → ∃ m', m' < m ∧ W (i + 1) m' H') ∧ ∀ x H', J.yld i H x H' → g x (wipe σ vs) H' fun σ2 H2 => wipe σ2 vs = wipe σ vs ∧ tYes σ2 H2 fun b H3 =>
        if b = true then te σ2 H3 fun y H4 => ∃ acc, H4 D = some (.lst acc) ∧ acc.length < sizeLine ∧ Nx (upd H4 D (.lst (acc ++ [y]))) else Nx H3) := by
  refine lc_gen w (fun i H v => ∀ q, qs[i]? = some q → Fr K H v q) nD hz hG (fun i H H' v b r q hq => (r q hq).tk b.tk) ?_ ?_
  · intro i x H H' acc hi e1 hD y k hk
    have hi2 : i < qs.length := by omega
    refine hs i x H H' _ (List.getElem?_eq_getElem hi2) e1 y k fun v H4 e4 r4 => hk v H4 e4 fun q hq => ?_
    rw [List.getElem?_eq_getElem hi2] at hq
    rw [← Option.some.inj hq]
    exact r4
  · intro H ys e1 hD hl hR
    exact hd H e1 ⟨ys, hD, by omega, fun i v q a b => hR i v a q b⟩
/-- a, b = the new pair -/
theorem pair_get {K : PySem.W.Frag} {H : Hp} {T : Addr} {x y : V} (h : H T = some (.tup [x, y])) : SqT K H T [x, y] := .of h

section
variable {P : Program} {w : World} {K : PySem.W.Frag} {mg : Str → Option Value} {base : Heap}
/-! ### derivative -/
def spDerivative (K : PySem.W.Frag) : Sp := fun vs H Q _ => ∃ p ps, vs = [p] ∧ TupF K H p ps ∧ SzR 1000 ps ∧ ps.length ≤ 16 ∧ ∀ v H', Same H H' → TupF K H' v (derivL ps) → Q v H'
theorem scDerivative : FnScope ["p", "power", "part"] ["p"] (defScope (topS 16)) := ⟨rfl, rfl, rfl, by decide +kernel, rfl, by decide +kernel, by decide +kernel⟩
theorem nat_fr {H : Hp} {T : Addr} {i : Nat} (h : H T = some (.tup [.int (i : Nat), .int 1])) : Fr K H (.ref T) ((i : Nat) : Rat) := ⟨T, rfl, .of (by rw [h, Rat.num_natCast, Rat.den_natCast]; rfl)⟩
theorem d_derivative (T : Tx P K mg base) : Def P w K mg base "derivative" 43 ["p"] (spDerivative K) := by
  obtain ⟨f, fd, hm, F⟩ := T.derivative
  refine ⟨f, fd, hm, F.kp, F.binds (ps := ["p"]) fun _ _ _ _ _ _ us hl => match us, hl with | [_], _ => rfl, F.ok scDerivative (fun vs H Q E h => ?_) (fun cdv A outer s H vs Q E hr h => ?_)⟩
  · obtain ⟨p, ps, rfl, _⟩ := h
    rfl
  · obtain ⟨_, ps, rfl, ⟨a, pvs, rfl, hS, hF⟩, hz, hl, kk⟩ := h
    refine ⟨_, pss_one (ps_ret (pe_def (d_trimmed T) (hr.mono (by decide)) (pa_cons (pe_slice sl_list
      (pe_lc (own := [("power", 1), ("part", 2)]) (g := gTup K 2 (gCons (gName 1) (gCons (gName 2) gNil))) (tt := tYes) rfl scDerivative.nd (pi_enumT T.bEnumerate (pa_cons (pv 0) pa_nil)) (blkOk_by (N := ["p", "power", "part"]) (sc := defScope (topS 16)) (by decide +kernel))
        (fun _ _ _ _ _ => pg_tup rfl (pgs_cons (pg_name (i := 1) scDerivative.nd rfl (.inl rfl)) (pgs_cons (pg_name (i := 2) scDerivative.nd rfl (.inl rfl)) pgs_nil))) (fun _ _ _ _ _ => pts_nil)
        (fun _ _ _ _ _ => pe_def (d_times T) (hr.mono (by decide)) (pa_cons (pv 2) (pa_cons (pe_tup (pa_cons (pv 1) (pa_cons pe_int pa_nil))) pa_nil))))
      (po_some pe_int) po_none) pa_nil))), ?_⟩
    refine ⟨_, rfl, a, pvs, rfl, hS, fun D nD => ?_⟩
    refine lc_fr (K := K) walk_enumT (powL ps) (by rw [powL_len, hF.len]) nD (by have := hF.len; omega) (fun H' e => sqT_tk (.same e) hS) ?_ ?_
    · rintro i x H1 H2 q hq e1 ⟨t, u, c, rfl, nt, rfl, e2, hc⟩ k hk
      have eu : V.int ((i : Nat) : Int) = u := Option.some.inj e2
      subst eu
      obtain ⟨r, hr1, hfr⟩ := hF.getV hc
      have hq2 : q = r * ((i : Nat) : Rat) := by
        have hq3 := hq
        unfold powL at hq3
        rw [List.getElem?_mapIdx, hr1] at hq3
        exact (Option.some.inj hq3).symm
      subst hq2
      have sr := hz r (List.mem_of_getElem? hr1)
      have hi : i < 16 := by
        have := (List.getElem?_eq_some_iff.mp hr1).1
        omega
      refine ⟨t, _, rfl, .of upd_same, rfl, _, _, rfl, _, _, rfl, rfl, rfl, ?_⟩
      refine ⟨c, rfl, _, rfl, by show 2 ≤ sizeLine; decide, fun t2 nt2 => ?_⟩
      have e3 : Same H1 (upd (upd H1 t (.tup [.int (i : Nat), c])) t2 (.tup [.int (i : Nat), .int 1])) := (same_new nt).trans (same_new nt2)
      exact ⟨_, _, r, (i : Rat), rfl, hfr.same (e1.trans e3), nat_fr upd_same, sz_small sr (by decide), sz_small (sz_nat (n := 5) (by omega) (by decide)) (by decide), trivial, fun v H4 e4 f4 => hk v H4 (e3.trans e4) f4⟩
    · intro H1 e1 ⟨ws, hD, hF2⟩
      refine ⟨1, rfl, D, ws, rfl, .of hD, fun p np => ?_⟩
      refine ⟨p, (powL ps).drop 1, rfl, ⟨_, upd_same, ?_⟩, by rw [List.length_drop, powL_len]; omega, fun v H2 e2 f2 => kk v H2 ((e1.trans (same_new np)).trans e2) f2⟩
      rw [show (1 : Int) = ((1 : Nat) : Int) from rfl, cut_from]
      exact (hF2.drop 1).same (same_new np)
end
end BR
end
section
set_option Elab.async false
set_option maxRecDepth 100000
namespace BR
open PySem PySem.Spec PyProof.Rows L2
section
variable {P : Program} {w : World} {K : PySem.W.Frag} {mg : Str → Option Value} {base : Heap}
theorem one_sub_sz {q : Rat} (h : Sz 10 q) : Sz 12 (1 - q) := (Sz.one (Nat.le_refl 1)).sub h
/-! ### discount, worth, slope -/
def spDiscount (K : PySem.W.Frag) : Sp := fun vs H Q _ => ∃ r x rw' v, vs = [r, x] ∧ Fr K H r rw' ∧ Fr K H x v ∧ VW v rw' ∧ ∀ y H', Same H H' → Fr K H' y (v / botF rw' v) → Q y H'
theorem scDiscount : FnScope ["rest", "v"] ["rest", "v"] (defScope (topS 18)) := ⟨rfl, rfl, rfl, by decide +kernel, rfl, by decide +kernel, by decide +kernel⟩
theorem d_discount (T : Tx P K mg base) : Def P w K mg base "discount" 43 ["rest", "v"] (spDiscount K) := by
  obtain ⟨f, fd, hm, F⟩ := T.discount
  refine ⟨f, fd, hm, F.kp, F.binds (ps := ["rest", "v"]) fun _ _ _ _ _ _ us hl => match us, hl with | [_, _], _ => rfl, F.ok scDiscount (fun vs H Q E h => ?_) (fun cdv A outer s H vs Q E hr h => ?_)⟩
  · obtain ⟨r, x, rw', v, rfl, _⟩ := h
    rfl
  · obtain ⟨r, x, u, v, rfl, hu, hv, vw, kk⟩ := h
    obtain ⟨o0, mo, so0⟩ := T.one
    refine ⟨_, pss_one (ps_ret (pe_def (d_over T) (hr.mono (by decide)) (pa_cons (pv 1) (pa_cons (pe_def (d_plus T) (hr.mono (by decide)) (pa_cons (pv 1) (pa_cons (pe_def (d_times T) (hr.mono (by decide)) (pa_cons (pv 0)
      (pa_cons (pe_def (d_minus T) (hr.mono (by decide)) (pa_cons (pe_glob (v := .ref o0) rfl mo rfl) (pa_cons (pv 1) pa_nil))) pa_nil))) pa_nil))) pa_nil)))), ?_⟩
    refine ⟨_, rfl, _, rfl, _, rfl, _, rfl, _, _, _, _, rfl, fr_one so0, hv, sz_small (Sz.one (Nat.le_refl 1)) (by decide), sz_small vw.sv (by decide), trivial, fun v1 H1 e1 f1 => ?_⟩
    refine ⟨_, _, _, _, rfl, hu.same e1, f1, sz_small vw.sw (by decide), sz_small (one_sub_sz vw.sv) (by decide), trivial, fun v2 H2 e2 f2 => ?_⟩
    refine ⟨_, _, _, _, rfl, hv.same (e1.trans e2), f2, sz_small vw.sv (by decide), sz_small (vw.sw.mul (one_sub_sz vw.sv)) (by decide), trivial, fun v3 H3 e3 f3 => ?_⟩
    exact ⟨_, _, v, botF u v, rfl, hv.same ((e1.trans e2).trans e3), f3, sz_small vw.sv (by decide), sz_small (bot_sz vw) (by decide), vw.bot, fun v4 H4 e4 f4 => kk v4 H4 (((e1.trans e2).trans e3).trans e4) f4⟩

def spWorth (K : PySem.W.Frag) (fn : List Rat → Rat → Rat → Rat) : Sp := fun vs H Q _ => ∃ p r x ps u v, vs = [p, r, x] ∧ TupF K H p ps ∧ Fr K H r u ∧ Fr K H x v ∧ RowOk ps ∧ VW v u ∧ ∀ y H', Same H H' → Fr K H' y (fn ps u v) → Q y H'
theorem scWorth : FnScope ["row", "rest", "v"] ["row", "rest", "v"] (defScope (topS 19)) := ⟨rfl, rfl, rfl, by decide +kernel, rfl, by decide +kernel, by decide +kernel⟩
theorem d_worth (T : Tx P K mg base) : Def P w K mg base "worth" 44 ["row", "rest", "v"] (spWorth K worthF) := by
  obtain ⟨f, fd, hm, F⟩ := T.worth
  refine ⟨f, fd, hm, F.kp, F.binds (ps := ["row", "rest", "v"]) fun _ _ _ _ _ _ us hl => match us, hl with | [_, _, _], _ => rfl, F.ok scWorth (fun vs H Q E h => ?_) (fun cdv A outer s H vs Q E hr h => ?_)⟩
  · obtain ⟨p, r, x, ps, u, v, rfl, _⟩ := h
    rfl
  · obtain ⟨p, r, x, ps, u, v, rfl, hp, hu, hv, ro, vw, kk⟩ := h
    refine ⟨_, pss_one (ps_ret (pe_def (d_times T) (hr.mono (by decide)) (pa_cons (pe_def (d_discount T) (hr.mono (by decide)) (pa_cons (pv 1) (pa_cons (pv 2) pa_nil)))
      (pa_cons (pe_def (d_valueAt T) (hr.mono (by decide)) (pa_cons (pv 0) (pa_cons (pv 2) pa_nil))) pa_nil)))), ?_⟩
    refine ⟨_, rfl, _, rfl, _, _, _, _, rfl, hu, hv, vw, fun v1 H1 e1 f1 => ?_⟩
    refine ⟨_, rfl, _, rfl, _, _, ps, v, 40, 10, rfl, hp.same e1, hv.same e1, ro.sz, vw.sv, by decide, by decide, by have := ro.len; omega, fun v2 H2 e2 f2 => ?_⟩
    exact ⟨_, _, v / botF u v, horner v ps, rfl, f1.same e2, f2, sz_small (vw.sv.div (bot_sz vw)) (by decide), sz_small (val_sz vw ro) (by decide), trivial, fun v4 H4 e4 f4 => kk v4 H4 ((e1.trans e2).trans e4) f4⟩
theorem scSlope : FnScope ["row", "rest", "v", "value", "rise", "bottom", "top"] ["row", "rest", "v"] (defScope (topS 21)) := ⟨rfl, rfl, rfl, by decide +kernel, rfl, by decide +kernel, by decide +kernel⟩
theorem d_slope (T : Tx P K mg base) : Def P w K mg base "slope" 44 ["row", "rest", "v"] (spWorth K slopeF) := by
  obtain ⟨f, fd, hm, F⟩ := T.slope
  refine ⟨f, fd, hm, F.kp, F.binds (ps := ["row", "rest", "v"]) fun _ _ _ _ _ _ us hl => match us, hl with | [_, _, _], _ => rfl, F.ok scSlope (fun vs H Q E h => ?_) (fun cdv A outer s H vs Q E hr h => ?_)⟩
  · obtain ⟨p, r, x, ps, u, v, rfl, _⟩ := h
    rfl
  · obtain ⟨p, r, x, ps, u, v, rfl, hp, hu, hv, ro, vw, kk⟩ := h
    obtain ⟨o0, mo, so0⟩ := T.one
    refine ⟨_, pss_cons (ps_par (i := 3) (j := 4) (by rfl) scSlope.nd rfl rfl (by decide) rfl rfl (pa_cons (pe_def (d_valueAt T) (hr.mono (by decide)) (pa_cons (pv 0) (pa_cons (pv 2) pa_nil)))
        (pa_cons (pe_def (d_valueAt T) (hr.mono (by decide)) (pa_cons (pe_def (d_derivative T) (hr.mono (by decide)) (pa_cons (pv 0) pa_nil)) (pa_cons (pv 2) pa_nil))) pa_nil)) (by rfl))
      (pss_cons (ps_set (i := 5) scSlope.nd rfl (.inl rfl) (pe_def (d_plus T) (hr.mono (by decide)) (pa_cons (pv 2) (pa_cons (pe_def (d_times T) (hr.mono (by decide)) (pa_cons (pv 1)
        (pa_cons (pe_def (d_minus T) (hr.mono (by decide)) (pa_cons (pe_glob (v := .ref o0) rfl mo rfl) (pa_cons (pv 2) pa_nil))) pa_nil))) pa_nil))))
      (pss_cons (ps_set (i := 6) scSlope.nd rfl (.inl rfl) (pe_def (d_minus T) (hr.mono (by decide))
        (pa_cons (pe_def (d_times T) (hr.mono (by decide)) (pa_cons (pe_def (d_plus T) (hr.mono (by decide)) (pa_cons (pv 3) (pa_cons (pe_def (d_times T) (hr.mono (by decide)) (pa_cons (pv 2) (pa_cons (pv 4) pa_nil))) pa_nil))) (pa_cons (pv 5) pa_nil)))
        (pa_cons (pe_def (d_times T) (hr.mono (by decide)) (pa_cons (pe_def (d_times T) (hr.mono (by decide)) (pa_cons (pv 2) (pa_cons (pv 3) pa_nil))) (pa_cons (pe_def (d_minus T) (hr.mono (by decide)) (pa_cons (pe_glob (v := .ref o0) rfl mo rfl) (pa_cons (pv 1) pa_nil))) pa_nil))) pa_nil))))
      (pss_one (ps_ret (pe_def (d_over T) (hr.mono (by decide)) (pa_cons (pv 6) (pa_cons (pe_def (d_times T) (hr.mono (by decide)) (pa_cons (pv 5) (pa_cons (pv 5) pa_nil))) pa_nil))))))), ?_⟩
    have S10 : Sz BB v := sz_small vw.sv (by decide)
    have Su : Sz BB u := sz_small vw.sw (by decide)
    have S1 : Sz BB 1 := sz_small (Sz.one (Nat.le_refl 1)) (by decide)
    have sV := val_sz vw ro
    have sR := rise_sz vw ro
    have sB := bot_sz vw
    -- value, rise
    refine ⟨_, rfl, _, rfl, _, _, ps, v, 40, 10, rfl, hp, hv, ro.sz, vw.sv, by decide, by decide, by have := ro.len; omega, fun v1 H1 e1 f1 => ?_⟩
    refine ⟨_, rfl, _, ps, rfl, hp.same e1, fun q hq => (ro.sz q hq).mono (by decide), by have := ro.len; omega, fun v2 H2 e2 f2 => ?_⟩
    have e12 := e1.trans e2
    refine ⟨_, rfl, _, _, derivL ps, v, 45, 10, rfl, f2, hv.same e12, derivL_sz ro.sz (by have := ro.len; omega), vw.sv, by decide, by decide, by have := ro.len; have := derivL_len ps; omega, fun v3 H3 e3 f3 => ?_⟩
    have e13 := e12.trans e3
    refine ⟨_, _, rfl, ?_⟩
    -- bottom
    refine ⟨_, rfl, _, rfl, _, rfl, _, _, _, _, rfl, fr_one so0, hv.same e13, S1, S10, trivial, fun v4 H4 e4 f4 => ?_⟩
    have e14 := e13.trans e4
    refine ⟨_, _, _, _, rfl, hu.same e14, f4, Su, sz_small (one_sub_sz vw.sv) (by decide), trivial, fun v5 H5 e5 f5 => ?_⟩
    have e15 := e14.trans e5
    refine ⟨_, _, _, _, rfl, hv.same e15, f5, S10, sz_small (vw.sw.mul (one_sub_sz vw.sv)) (by decide), trivial, fun v6 H6 e6 f6 => ?_⟩
    have e16 := e15.trans e6
    have fV : Fr K H6 v1 (horner v ps) := f1.same ((((e2.trans e3).trans e4).trans e5).trans e6)
    have fR : Fr K H6 v3 (horner v (derivL ps)) := f3.same ((e4.trans e5).trans e6)
    have fB : Fr K H6 v6 (botF u v) := f6
    -- top
    refine ⟨_, rfl, _, rfl, _, rfl, _, _, _, _, rfl, hv.same e16, fR, S10, sz_small sR (by decide), trivial, fun v7 H7 e7 f7 => ?_⟩
    refine ⟨_, _, _, _, rfl, fV.same e7, f7, sz_small sV (by decide), sz_small (vw.sv.mul sR) (by decide), trivial, fun v8 H8 e8 f8 => ?_⟩
    have e68 := e7.trans e8
    refine ⟨_, rfl, _, _, _, _, rfl, f8, fB.same e68, sz_small (sV.add (vw.sv.mul sR)) (by decide), sz_small sB (by decide), trivial, fun v9 H9 e9 f9 => ?_⟩
    have e69 := e68.trans e9
    refine ⟨_, rfl, _, rfl, _, _, _, _, rfl, hv.same (e16.trans e69), fV.same e69, S10, sz_small sV (by decide), trivial, fun v10 H10 e10 f10 => ?_⟩
    have e610 := e69.trans e10
    refine ⟨_, rfl, _, _, _, _, rfl, fr_one so0, hu.same (e16.trans e610), S1, Su, trivial, fun v11 H11 e11 f11 => ?_⟩
    refine ⟨_, _, _, _, rfl, f10.same e11, f11, sz_small (vw.sv.mul sV) (by decide), sz_small (one_sub_sz vw.sw) (by decide), trivial, fun v12 H12 e12' f12 => ?_⟩
    have e912 := (e10.trans e11).trans e12'
    have sA := (sV.add (vw.sv.mul sR)).mul sB
    have sC := (vw.sv.mul sV).mul (one_sub_sz vw.sw)
    refine ⟨_, _, _, _, rfl, f9.same e912, f12, sz_small sA (by decide), sz_small sC (by decide), trivial, fun v13 H13 e13' f13 => ?_⟩
    have e613 := (e69.trans e912).trans e13'
    -- return
    refine ⟨_, rfl, _, rfl, _, rfl, _, _, _, _, rfl, fB.same e613, fB.same e613, sz_small sB (by decide), sz_small sB (by decide), trivial, fun v14 H14 e14' f14 => ?_⟩
    refine ⟨_, _, _, _, rfl, f13.same e14', f14, sz_small (sA.sub sC) (by decide), sz_small (sB.mul sB) (by decide), ?_, fun v15 H15 e15' f15 => kk v15 H15 ((e16.trans e613).trans (e14'.trans e15')) f15⟩
    intro z
    rcases Rat.mul_eq_zero.mp z with z | z
    · exact vw.bot z
    · exact vw.bot z
end
end BR
end
section
/-! dot: the pairs that are both not 0. -/
namespace BR
def nzP (pr : Rat × Rat) : Bool := !decide (pr.1 = 0) && !decide (pr.2 = 0)
def nzL (ps qs : List Rat) : List (Rat × Rat) := (ps.zip qs).filter nzP
def prodL (l : List (Rat × Rat)) : List Rat := l.map fun pr => pr.1 * pr.2
theorem sum_nz : ∀ ps qs : List Rat, sumL (prodL (nzL ps qs)) = dotP ps qs
  | [], qs => by cases qs <;> rfl
  | p :: ps, [] => rfl
  | p :: ps, q :: qs => by
    have ih := sum_nz ps qs
    show sumL (prodL (((p, q) :: ps.zip qs).filter nzP)) = p * q + dotP ps qs
    rw [List.filter_cons]
    by_cases h : nzP (p, q) = true
    · rw [if_pos h]
      show sumL (p * q :: prodL (nzL ps qs)) = _
      rw [sumL_cons, ih]
    · rw [if_neg h]
      show sumL (prodL (nzL ps qs)) = _
      rw [ih]
      have hz : p = 0 ∨ q = 0 := by
        by_cases h1 : p = 0
        · exact .inl h1
        · by_cases h2 : q = 0
          · exact .inr h2
          · exact absurd (by unfold nzP; simp [h1, h2]) h
      rcases hz with e | e
      · rw [e]; grind
      · rw [e]; grind
theorem mem_nzL {ps qs : List Rat} {pr : Rat × Rat} (h : pr ∈ nzL ps qs) : pr.1 ∈ ps ∧ pr.2 ∈ qs := by
  have h2 := (List.mem_filter.mp h).1
  exact ⟨(List.of_mem_zip h2).1, (List.of_mem_zip h2).2⟩
theorem prodL_sz {a b : Nat} {ps qs : List Rat} (ha : SzR a ps) (hb : SzR b qs) : SzR (a + b) (prodL (nzL ps qs)) := by
  intro x hx
  obtain ⟨pr, hpr, rfl⟩ := List.mem_map.mp hx
  have m := mem_nzL hpr
  exact (ha _ m.1).mul (hb _ m.2)
theorem nzL_len (ps qs : List Rat) : (nzL ps qs).length ≤ ps.length := by
  refine Nat.le_trans (List.length_filter_le ..) ?_
  rw [List.length_zip]
  exact Nat.min_le_left ..
theorem zip_at {ps qs : List Rat} {i : Nat} {p q : Rat} (hp : ps[i]? = some p) (hq : qs[i]? = some q) : (ps.zip qs)[i]? = some (p, q) := by
  rw [List.getElem?_zip_eq_some]
  exact ⟨hp, hq⟩
theorem nz_take {ps qs : List Rat} {i : Nat} {p q : Rat} (hp : ps[i]? = some p) (hq : qs[i]? = some q) :
    ((ps.zip qs).take (i + 1)).filter nzP = ((ps.zip qs).take i).filter nzP ++ (if nzP (p, q) = true then [(p, q)] else []) := by
  rw [List.take_add_one, zip_at hp hq, List.filter_append]
  congr 1
  show [(p, q)].filter nzP = _
  rw [List.filter_cons]
  rfl
theorem nz_all (ps qs : List Rat) {n : Nat} (h : ps.length ≤ n) : ((ps.zip qs).take n).filter nzP = nzL ps qs := by
  rw [List.take_of_length_le (by rw [List.length_zip]; omega)]
  rfl
end BR
end
section
set_option Elab.async false
set_option maxRecDepth 100000
namespace BR
open PySem PySem.Spec PyProof.Rows L2
theorem sqK_same {K : PySem.W.Frag} {H H' : Hp} {k : Kd} {a : Addr} {xs : List V} (e : Same H H') (h : SqK K H k a xs) : SqK K H' k a xs := by
  cases k with
  | l => exact e.seq h
  | t => exact sqT_tk (.same e) h
/-- a list or a tuple of fractions -/
def SeqF (K : PySem.W.Frag) (H : Hp) (v : V) (qs : List Rat) : Prop := ∃ k a vs, v = .ref a ∧ SqK K H k a vs ∧ Frs K H vs qs
theorem SeqF.same {K : PySem.W.Frag} {H H' : Hp} {v : V} {qs : List Rat} (e : Same H H') (h : SeqF K H v qs) : SeqF K H' v qs := by
  obtain ⟨k, a, vs, rfl, s, f⟩ := h
  exact ⟨k, a, vs, rfl, sqK_same e s, f.same e⟩
theorem TupF.seq {K : PySem.W.Frag} {H : Hp} {v : V} {qs : List Rat} (h : TupF K H v qs) : SeqF K H v qs := by
  obtain ⟨a, vs, rfl, s, f⟩ := h
  exact ⟨.t, a, vs, rfl, s, f⟩
theorem LstF.seq {K : PySem.W.Frag} {H : Hp} {a : Addr} {qs : List Rat} (h : LstF K H a qs) : SeqF K H (.ref a) qs := by
  obtain ⟨vs, s, f⟩ := h
  exact ⟨.l, a, vs, rfl, .of s, f⟩
/-- tuples of two fractions -/
structure Prs (K : PySem.W.Frag) (H : Hp) (vs : List V) (l : List (Rat × Rat)) : Prop where
  len : vs.length = l.length
  at' : ∀ (i : Nat) (v : V) (pr : Rat × Rat), vs[i]? = some v → l[i]? = some pr → ∃ t x y, v = .ref t ∧ SqT K H t [x, y] ∧ Fr K H x pr.1 ∧ Fr K H y pr.2
theorem Prs.tk {K : PySem.W.Frag} {H H' : Hp} {vs : List V} {l : List (Rat × Rat)} (e : Tk H H') (h : Prs K H vs l) : Prs K H' vs l :=
  ⟨h.len, fun i v pr a b => by
    obtain ⟨t, x, y, e1, s, f1, f2⟩ := h.at' i v pr a b
    exact ⟨t, x, y, e1, sqT_tk e s, f1.tk e, f2.tk e⟩⟩
theorem Prs.snoc {K : PySem.W.Frag} {H : Hp} {vs : List V} {l : List (Rat × Rat)} {t : Addr} {x y : V} {pr : Rat × Rat} (h : Prs K H vs l) (s : SqT K H t [x, y]) (f1 : Fr K H x pr.1) (f2 : Fr K H y pr.2) : Prs K H (vs ++ [.ref t]) (l ++ [pr]) := by
  refine ⟨by rw [List.length_append, List.length_append, h.len]; rfl, fun i v p a b => ?_⟩
  by_cases hi : i < vs.length
  · rw [List.getElem?_append_left hi] at a
    rw [List.getElem?_append_left (h.len ▸ hi)] at b
    exact h.at' i v p a b
  · have hi2 := (List.getElem?_eq_some_iff.mp a).1
    rw [List.length_append, List.length_singleton] at hi2
    have ei : i = vs.length := by omega
    subst ei
    rw [List.getElem?_append_right (Nat.le_refl _), Nat.sub_self] at a
    rw [h.len, List.getElem?_append_right (Nat.le_refl _), Nat.sub_self] at b
    have ea : V.ref t = v := Option.some.inj a
    have eb : pr = p := Option.some.inj b
    subst ea eb
    exact ⟨t, x, y, rfl, s, f1, f2⟩
section
variable {P : Program} {w : World} {K : PySem.W.Frag} {mg : Str → Option Value} {base : Heap}
/-! ### dot -/
def spDot (K : PySem.W.Frag) : Sp := fun vs H Q _ => ∃ x y ps qs a b, vs = [x, y] ∧ SeqF K H x ps ∧ SeqF K H y qs ∧ ps.length = qs.length ∧ ps.length ≤ 10 ∧ SzR a ps ∧ SzR b qs ∧ a + b ≤ 36000 ∧ ∀ v H', Same H H' → Fr K H' v (dotP ps qs) → Q v H'
theorem scDot : FnScope ["some", "others", "pairs", "one", "other"] ["some", "others"] (defScope (topS 12)) := ⟨rfl, rfl, rfl, by decide +kernel, rfl, by decide +kernel, by decide +kernel⟩
abbrev gPair (K : PySem.W.Frag) (i j : Nat) : TG := gTup K 2 (gCons (gName i) (gCons (gName j) gNil))
theorem d_dot (T : Tx P K mg base) : Def P w K mg base "dot" 44 ["some", "others"] (spDot K) := by
  obtain ⟨f, fd, hm, F⟩ := T.dot
  refine ⟨f, fd, hm, F.kp, F.binds (ps := ["some", "others"]) fun _ _ _ _ _ _ us hl => match us, hl with | [_, _], _ => rfl, F.ok scDot (fun vs H Q E h => ?_) (fun cdv A outer s H vs Q E hr h => ?_)⟩
  · obtain ⟨x, y, ps, qs, a, b, rfl, _⟩ := h
    rfl
  · obtain ⟨_, _, ps, qs, a, b, rfl, ⟨k1, ax, xs, rfl, hX, fX⟩, ⟨k2, ay, ys, rfl, hY, fY⟩, hl, hl10, sa, sb, hab, kk⟩ := h
    obtain ⟨z0, mz, sz0⟩ := T.zero
    refine ⟨_, pss_cons (ps_setLc (i := 2) (own := [("one", 3), ("other", 4)]) (g := gPair K 3 4) (tt := tAnd (tTest (tOp (rNeF K) (tVar 3) (tC (.ref z0)))) (tTest (tOp (rNeF K) (tVar 4) (tC (.ref z0))))) rfl scDot.nd rfl rfl (sw_true rfl rfl rfl (by decide +kernel))
        (pi_zipS T.bZip (pa_cons (pv 0) (pa_cons (pv 1) pa_nil))) (blkOk_by (N := ["some", "others", "pairs", "one", "other"]) (sc := defScope (topS 12)) (by decide +kernel))
        (fun _ _ _ _ _ => pg_tup rfl (pgs_cons (pg_name (i := 3) scDot.nd rfl (.inl rfl)) (pgs_cons (pg_name (i := 4) scDot.nd rfl (.inl rfl)) pgs_nil)))
        (fun _ _ _ _ _ => pts_one (PW.pt (pw_and (pt_cmpR (op_neF (hr.mono (by decide))) (pv 3) (pe_glob (v := .ref z0) rfl mz rfl) (nomark _)) (pw_and1 (pt_cmpR (op_neF (hr.mono (by decide))) (pv 4) (pe_glob (v := .ref z0) rfl mz rfl) (nomark _))))))
        (fun _ _ _ _ _ => pe_tup (pa_cons (pv 3) (pa_cons (pv 4) pa_nil))))
      (pss_one (ps_ret (pe_def (d_sumAll T) (hr.mono (by decide)) (pa_cons
        (pe_lc (own := [("one", 3), ("other", 4)]) (g := gPair K 3 4) (tt := tYes) rfl scDot.nd (pi_list (pv 2)) (blkOk_by (N := ["some", "others", "pairs", "one", "other"]) (sc := defScope (topS 12)) (by decide +kernel))
          (fun _ _ _ _ _ => pg_tup rfl (pgs_cons (pg_name (i := 3) scDot.nd rfl (.inl rfl)) (pgs_cons (pg_name (i := 4) scDot.nd rfl (.inl rfl)) pgs_nil))) (fun _ _ _ _ _ => pts_nil)
          (fun _ _ _ _ _ => pe_def (d_times T) (hr.mono (by decide)) (pa_cons (pv 3) (pa_cons (pv 4) pa_nil)))) pa_nil)))), ?_⟩
    have lx := fX.len
    have ly := fY.len
    refine ⟨_, rfl, _, rfl, k1, k2, ax, ay, xs, ys, rfl, hX, hY, fun D nD => ?_⟩
    refine lc_it (walk_zipS (by omega)) (fun i H' => Same H H' ∧ ∃ acc, H' D = some (.lst acc) ∧ acc.length ≤ i ∧ Prs K H' acc (((ps.zip qs).take i).filter nzP)) ⟨same_new nD, [], upd_same, Nat.le_refl _, ⟨rfl, fun i v pr e _ => by simp at e⟩⟩ (fun i H' _ h => ⟨sqK_same h.1 hX, sqK_same h.1 hY⟩) ?_ ?_
    · rintro i v H1 H2 hi ⟨e1, acc, hD, hacc, hP⟩ ⟨t, x, y, rfl, nt, rfl, hx, hy⟩
      obtain ⟨p, hp, fp⟩ := fX.getV hx
      obtain ⟨q, hq, fq⟩ := fY.getV hy
      have e2 : Same H1 (upd H1 t (.tup [x, y])) := same_new nt
      have st := nz_take hp hq
      refine ⟨t, _, rfl, .of upd_same, rfl, _, _, rfl, _, _, rfl, rfl, rfl, ?_⟩
      have skip : nzP (p, q) = false → Same H (upd H1 t (.tup [x, y])) ∧ ∃ acc, (upd H1 t (.tup [x, y])) D = some (.lst acc) ∧ acc.length ≤ i + 1 ∧ Prs K (upd H1 t (.tup [x, y])) acc (((ps.zip qs).take (i + 1)).filter nzP) := fun hz => by
        rw [st, if_neg (by rw [hz]; exact Bool.false_ne_true), List.append_nil]
        exact ⟨e1.trans e2, acc, e2 _ _ hD, Nat.le_succ_of_le hacc, hP.tk (.same e2)⟩
      refine ⟨x, rfl, p, 0, fp.same (e1.trans e2), fr_zero sz0, _, rfl, ?_⟩
      by_cases hp0 : p = 0
      · refine iteBF (ndecF hp0) (iteF (skip ?_))
        unfold nzP
        rw [decide_eq_true hp0]
        rfl
      · refine iteB (ndec hp0) ⟨y, rfl, q, 0, fq.same (e1.trans e2), fr_zero sz0, _, rfl, ?_⟩
        by_cases hq0 : q = 0
        · refine iteBF (ndecF hq0) (skip ?_)
          unfold nzP
          rw [decide_eq_true hq0, Bool.not_true, Bool.and_false]
        · refine iteB (ndec hq0) ?_
          refine ⟨x, rfl, y, rfl, by show 2 ≤ sizeLine; decide, fun t2 nt2 => ?_⟩
          have e3 : Same (upd H1 t (.tup [x, y])) (upd (upd H1 t (.tup [x, y])) t2 (.tup [x, y])) := same_new nt2
          have hD3 := e3 _ _ (e2 _ _ hD)
          refine ⟨acc, hD3, Nat.lt_of_le_of_lt (Nat.le_trans hacc (Nat.le_of_lt hi)) (small1000 (by omega)), same_put nD ((e1.trans e2).trans e3), acc ++ [.ref t2], upd_same, by rw [List.length_append]; exact Nat.succ_le_succ hacc, ?_⟩
          rw [st, if_pos (by unfold nzP; rw [decide_eq_false hp0, decide_eq_false hq0]; rfl)]
          refine Prs.tk (.lst hD3) ((hP.tk (.same (e2.trans e3))).snoc (.of upd_same) ?_ ?_)
          · exact fp.same ((e1.trans e2).trans e3)
          · exact fq.same ((e1.trans e2).trans e3)
    · rintro H1 ⟨e1, acc, hD, hacc, hP⟩
      rw [nz_all ps qs (by omega)] at hP
      refine ⟨_, rfl, D, rfl, ⟨_, .of hD⟩, fun D2 nD2 => ?_⟩
      have lnz := nzL_len ps qs
      refine lc_fr (K := K) (walk_list (xs := acc)) (prodL (nzL ps qs)) (by unfold prodL; rw [List.length_map, hP.len]) nD2 (by have := hP.len; omega) (fun H' e => e.seq (.of hD)) ?_ ?_
      · rintro i v H2 H3 r hr2 e2 ⟨rfl, hv⟩ k hk
        obtain ⟨pr, hpr, rfl⟩ : ∃ pr, (nzL ps qs)[i]? = some pr ∧ r = pr.1 * pr.2 := by
          unfold prodL at hr2
          rw [List.getElem?_map] at hr2
          cases e : (nzL ps qs)[i]? with
          | none => rw [e] at hr2; cases hr2
          | some pr => rw [e] at hr2; exact ⟨pr, rfl, (Option.some.inj hr2).symm⟩
        obtain ⟨t, x, y, rfl, sq, f1, f2⟩ := (hP.tk (.same e2)).at' i v pr hv hpr
        have m := mem_nzL (List.mem_of_getElem? hpr)
        refine ⟨t, _, rfl, sq, rfl, _, _, rfl, _, _, rfl, rfl, rfl, ?_⟩
        exact ⟨x, rfl, y, rfl, _, _, _, _, rfl, f1, f2, sz_small (sa _ m.1) (by omega), sz_small (sb _ m.2) (by omega), trivial, fun v4 H4 e4 f4 => hk v4 H4 e4 f4⟩
      · rintro H2 e2 hL
        refine ⟨D2, prodL (nzL ps qs), a + b, rfl, hL, prodL_sz sa sb, hab, by unfold prodL; rw [List.length_map]; omega, fun v4 H4 e4 f4 => kk v4 H4 ((e1.trans e2).trans e4) ?_⟩
        rw [← sum_nz]
        exact f4
end
end BR
end
section
set_option Elab.async false
set_option maxRecDepth 100000
namespace BR
open PySem PySem.Spec PyProof.Rows L2
theorem ty_tup {K : PySem.W.Frag} {H : Hp} {a : Addr} {xs : List V} (h : SqT K H a xs) : TyX K H (.ref a) (.type "tuple") := by
  rcases h with (h | ⟨o, h⟩) | ⟨o, its, n, h, c, _⟩
  · exact .base (.tup h)
  · exact .fTuple h
  · exact .kTuple h c
theorem kit_tt {K : PySem.W.Frag} : PySem.W.kitOne K (.type "tuple") (.type "tuple") = some true := kit_ty (by decide +kernel)
theorem kit_ii {K : PySem.W.Frag} : PySem.W.kitOne K (.type "int") (.type "int") = some true := kit_ty (by decide +kernel)
theorem kit_ib {K : PySem.W.Frag} : PySem.W.kitOne K (.type "int") (.type "bool") = some false := kit_ty (by decide +kernel)
theorem all_true : ∀ n : Nat, (List.replicate n true).all id = true
  | 0 => rfl
  | n + 1 => by
    rw [List.replicate_succ, List.all_cons, all_true n]
    rfl
theorem bls_true {ys : List V} (h : ∀ (i : Nat) y, ys[i]? = some y → y = .bl true) : ys = (List.replicate ys.length true).map V.bl := by
  refine List.ext_getElem? fun i => ?_
  rw [List.getElem?_map, List.getElem?_replicate]
  by_cases hi : i < ys.length
  · rw [if_pos hi, List.getElem?_eq_getElem hi, h i _ (List.getElem?_eq_getElem hi)]
    rfl
  · rw [if_neg hi, List.getElem?_eq_none (Nat.le_of_not_lt hi)]
    rfl
theorem gcd_red (q : Rat) : Int.gcd q.num (q.den : Int) = 1 := q.reduced
section
variable {P : Program} {w : World} {K : PySem.W.Frag} {mg : Str → Option Value} {base : Heap}
/-! ### is_fraction, are_fractions -/
def spIsFraction (K : PySem.W.Frag) : Sp := fun vs H Q _ => ∃ x q, vs = [x] ∧ Fr K H x q ∧ ∀ H', Same H H' → Q (.bl true) H'
theorem scIsFraction : FnScope ["value", "part"] ["value"] (defScope (topS 5)) := ⟨rfl, rfl, rfl, by decide +kernel, rfl, by decide +kernel, by decide +kernel⟩
theorem d_isFraction (T : Tx P K mg base) : Def P w K mg base "is_fraction" 2 ["value"] (spIsFraction K) := by
  obtain ⟨f, fd, hm, F⟩ := T.isFraction
  refine ⟨f, fd, hm, F.kp, F.binds (ps := ["value"]) fun _ _ _ _ _ _ us hl => match us, hl with | [_], _ => rfl, F.ok scIsFraction (fun vs H Q E h => ?_) (fun cdv A outer s H vs Q E hr h => ?_)⟩
  · obtain ⟨x, q, rfl, _⟩ := h
    rfl
  · obtain ⟨_, q, rfl, ⟨a, rfl, hS⟩, kk⟩ := h
    have tI : RelV (.ty "int") (.type "int") := rfl
    have tB : RelV (.ty "bool") (.type "bool") := rfl
    refine ⟨_, pss_cons (ps_if (PW.pt (pw_or (pt_not (pt_val (pe_callB call_isi (by rfl) T.bIsinstance PyProof.Rows.boot_isinstance (pa_cons (pv 0) (pa_cons (pe_bltn (v := .ty "tuple") (by rfl) T.bTuple PyProof.Rows.boot_tuple rfl) pa_nil)))))
          (pw_or1 (pt_cmpR op_ne (pe_callB call_len_seq (by rfl) T.bLen PySem.boot_len (pa_cons (pv 0) pa_nil)) pe_int (nomark _))))) (pss_one (ps_ret pe_bl)) pss_nil)
      (pss_cons (ps_if (pt_not (pt_val (pe_callB (cr_all rfl) (by rfl) T.bAll PyProof.Rows.boot_all (pa_cons
          (pe_lc (own := [("part", 1)]) (g := gName 1) (tt := tYes) (te := tAndV (tCB (rIsi K) (tCons (tVar 1) (tCons (tC (.ty "int")) tNil))) (tNotV (tCB (rIsi K) (tCons (tVar 1) (tCons (tC (.ty "bool")) tNil))))) rfl scIsFraction.nd (pi_tup (pv 0))
            (blkOk_by (N := ["value", "part"]) (sc := defScope (topS 5)) (by decide +kernel)) (fun _ _ _ _ _ => pg_name (i := 1) scIsFraction.nd rfl (.inl rfl)) (fun _ _ _ _ _ => pts_nil)
            (fun _ _ _ _ _ => pe_and (pe_callB call_isi (by rfl) T.bIsinstance PyProof.Rows.boot_isinstance (pa_cons (pv 1) (pa_cons (pe_bltn (v := .ty "int") (by rfl) T.bInt PyProof.Rows.boot_int tI) pa_nil)))
              (pe_one (pe_not (pe_callB call_isi (by rfl) T.bIsinstance PyProof.Rows.boot_isinstance (pa_cons (pv 1) (pa_cons (pe_bltn (v := .ty "bool") (by rfl) T.bBool PyProof.Rows.boot_bool tB) pa_nil))))))) pa_nil)))) (pss_one (ps_ret pe_bl)) pss_nil)
      (pss_one (ps_ret (pe_and (pe_cmpR op_gt (pe_ix ix_fr (pv 0) pe_int fun _ _ => rfl) pe_int (nomark _))
        (pe_one (pe_cmpR op_eq (pe_def (d_divisor T) (hr.mono (by decide)) (pa_cons (pe_ix ix_fr (pv 0) pe_int fun _ _ => rfl) (pa_cons (pe_ix ix_fr (pv 0) pe_int fun _ _ => rfl) pa_nil))) pe_int (nomark _))))))), ?_⟩
    refine ⟨_, rfl, .ref a, .ty "tuple", _, _, true, rfl, .ty _, ty_tup hS, kit_tt, true, rfl, iteF ?_⟩
    refine ⟨_, rfl, a, _, rfl, .inr hS, rfl, _, rfl, iteBF (ndecF rfl) ?_⟩
    refine ⟨_, rfl, a, rfl, ⟨_, hS⟩, fun D nD => ?_⟩
    refine lc_gen (walk_tup (xs := [.int q.num, .int (q.den : Int)])) (fun _ _ v => v = .bl true) nD (show 2 ≤ 100000 by decide) (fun H' e => sqT_tk (.same e) hS) (fun _ _ _ _ _ r => r) ?_ ?_
    · rintro i x H1 H2 acc hi e1 hD ⟨rfl, hx⟩ k hk
      obtain ⟨z, rfl⟩ : ∃ z, x = V.int z := by
        match i, hx with
        | 0, hx => exact ⟨_, (Option.some.inj hx).symm⟩
        | 1, hx => exact ⟨_, (Option.some.inj hx).symm⟩
        | i + 2, hx => simp at hx
      refine ⟨rfl, _, rfl, .int z, .ty "int", _, _, true, rfl, .ty _, .base (.int z), kit_ii, true, rfl, iteT ?_⟩
      exact ⟨_, rfl, .int z, .ty "bool", _, _, false, rfl, .ty _, .base (.int z), kit_ib, false, rfl, hk _ _ (.refl _) rfl⟩
    · intro H1 ys e1 hD hl hR
      have hb := bls_true hR
      refine ⟨D, List.replicate ys.length true, rfl, .of (by rw [← hb]; exact hD), ?_⟩
      refine ⟨_, rfl, ?_⟩
      rw [all_true]
      refine iteF ?_
      have hS1 : Fr K H1 (.ref a) q := ⟨a, rfl, sqT_tk (.same e1) hS⟩
      refine ⟨_, rfl, q, hS1, .inr ⟨rfl, _, _, rfl, rfl, _, rfl, ?_⟩⟩
      refine iteB (decide_eq_true (by have := q.den_nz; omega)) ?_
      refine ⟨_, rfl, q, hS1, .inl ⟨rfl, _, rfl, q, hS1, .inr ⟨rfl, _, _, rfl, rfl, ?_⟩⟩⟩
      rw [gcd_red]
      exact kk H1 e1
def spAreF (K : PySem.W.Frag) : Sp := fun vs H Q _ => ∃ x qs, vs = [x] ∧ TupF K H x qs ∧ qs.length ≤ 1000 ∧ ∀ H', Same H H' → Q (.bl true) H'
theorem scAreF : FnScope ["value", "part"] ["value"] (defScope (topS 6)) := ⟨rfl, rfl, rfl, by decide +kernel, rfl, by decide +kernel, by decide +kernel⟩
theorem d_areFractions (T : Tx P K mg base) : Def P w K mg base "are_fractions" 3 ["value"] (spAreF K) := by
  obtain ⟨f, fd, hm, F⟩ := T.areFractions
  refine ⟨f, fd, hm, F.kp, F.binds (ps := ["value"]) fun _ _ _ _ _ _ us hl => match us, hl with | [_], _ => rfl, F.ok scAreF (fun vs H Q E h => ?_) (fun cdv A outer s H vs Q E hr h => ?_)⟩
  · obtain ⟨x, q, rfl, _⟩ := h
    rfl
  · obtain ⟨_, qs, rfl, ⟨a, xs, rfl, hS, hF⟩, hl, kk⟩ := h
    refine ⟨_, pss_one (ps_ret (pe_and (pe_callB call_isi (by rfl) T.bIsinstance PyProof.Rows.boot_isinstance (pa_cons (pv 0) (pa_cons (pe_bltn (v := .ty "tuple") (by rfl) T.bTuple PyProof.Rows.boot_tuple rfl) pa_nil)))
      (pe_one (pe_callB (cr_all rfl) (by rfl) T.bAll PyProof.Rows.boot_all (pa_cons
          (pe_lc (own := [("part", 1)]) (g := gName 1) (tt := tYes) rfl scAreF.nd (pi_tup (pv 0))
            (blkOk_by (N := ["value", "part"]) (sc := defScope (topS 6)) (by decide +kernel)) (fun _ _ _ _ _ => pg_name (i := 1) scAreF.nd rfl (.inl rfl)) (fun _ _ _ _ _ => pts_nil)
            (fun _ _ _ _ _ => pe_def (d_isFraction T) (hr.mono (by decide)) (pa_cons (pv 1) pa_nil))) pa_nil))))), ?_⟩
    refine ⟨_, rfl, .ref a, .ty "tuple", _, _, true, rfl, .ty _, ty_tup hS, kit_tt, true, rfl, iteT ?_⟩
    refine ⟨_, rfl, a, rfl, ⟨_, hS⟩, fun D nD => ?_⟩
    refine lc_gen (walk_tup (xs := xs)) (fun _ _ v => v = .bl true) nD (by have := hF.len; omega) (fun H' e => sqT_tk (.same e) hS) (fun _ _ _ _ _ r => r) ?_ ?_
    · rintro i x H1 H2 acc hi e1 hD ⟨rfl, hx⟩ k hk
      obtain ⟨q, _, hf⟩ := (hF.same e1).getV hx
      exact ⟨rfl, x, rfl, x, q, rfl, hf, fun H' e => hk _ _ e rfl⟩
    · intro H1 ys e1 hD hl hR
      have hb := bls_true hR
      refine ⟨D, List.replicate ys.length true, rfl, .of (by rw [← hb]; exact hD), ?_⟩
      rw [all_true]
      exact kk H1 e1
end
end BR
end
section
set_option Elab.async false
set_option maxRecDepth 100000
namespace BR
open PySem PySem.Spec PyProof.Rows L2
theorem walk_rng0 {n : Nat} : Walk (Itr 0 n) n (fun _ => True) (fun i H x H' => H' = H ∧ x = .int ((i : Nat) : Int)) :=
  ⟨fun _ _ hi _ => hi, fun _ _ => Nat.le_refl _, fun i H x H' _ _ y => ⟨y.1, by rw [y.2, Int.zero_add]⟩⟩
def unitL (n : Nat) (j : Int) : List Rat := (List.range n).map fun k => if ((k : Nat) : Int) = j then 1 else 0
theorem unitL_at {n : Nat} {j : Int} {i : Nat} {q : Rat} (h : (unitL n j)[i]? = some q) : q = if ((i : Nat) : Int) = j then 1 else 0 := by
  unfold unitL at h
  rw [List.getElem?_map] at h
  by_cases hi : i < n
  · rw [List.getElem?_range hi] at h
    exact (Option.some.inj h).symm
  · rw [List.getElem?_eq_none (by rw [List.length_range]; omega)] at h
    cases h
theorem lessL_at {r o : List Rat} {f : Rat} {i : Nat} {q x y : Rat} (h : (lessL r o f)[i]? = some q) (hx : r[i]? = some x) (hy : o[i]? = some y) : q = x - f * y := by
  unfold lessL at h
  rw [List.getElem?_zipWith, hx, hy] at h
  exact (Option.some.inj h).symm
section
variable {P : Program} {w : World} {K : PySem.W.Frag} {mg : Str → Option Value} {base : Heap}
/-! ### unit -/
def spUnit (K : PySem.W.Frag) : Sp := fun vs H Q _ => ∃ (n : Nat) (j : Int), vs = [.int (n : Int), .int j] ∧ n ≤ 100 ∧ ∀ p H', Same H H' → H p = none → LstF K H' p (unitL n j) → Q (.ref p) H'
theorem scUnit : FnScope ["size", "place", "k"] ["size", "place"] (defScope (topS 23)) := ⟨rfl, rfl, rfl, by decide +kernel, rfl, by decide +kernel, by decide +kernel⟩
theorem d_unit (T : Tx P K mg base) : Def P w K mg base "unit" 1 ["size", "place"] (spUnit K) := by
  obtain ⟨f, fd, hm, F⟩ := T.unit
  refine ⟨f, fd, hm, F.kp, F.binds (ps := ["size", "place"]) fun _ _ _ _ _ _ us hl => match us, hl with | [_, _], _ => rfl, F.ok scUnit (fun vs H Q E h => ?_) (fun cdv A outer s H vs Q E hr h => ?_)⟩
  · obtain ⟨n, j, rfl, _⟩ := h
    rfl
  · obtain ⟨n, j, rfl, hn, kk⟩ := h
    obtain ⟨z0, mz, sz0⟩ := T.zero
    obtain ⟨o0, mo, so0⟩ := T.one
    refine ⟨_, pss_one (ps_ret (pe_lc (own := [("k", 2)]) (g := gName 2) (tt := tYes) (te := tIf (tTest (tOp rEq (tVar 2) (tVar 1))) (tC (.ref o0)) (tC (.ref z0))) rfl scUnit.nd (pi_range1 rfl T.bRange (pa_cons (pv 0) pa_nil))
      (blkOk_by (N := ["size", "place", "k"]) (sc := defScope (topS 23)) (by decide +kernel)) (fun _ _ _ _ _ => pg_name (i := 2) scUnit.nd rfl (.inl rfl)) (fun _ _ _ _ _ => pts_nil)
      (fun _ _ _ _ _ => pe_ifExp (pt_cmpR op_eq (pv 2) (pv 1) (nomark _)) (pe_glob (v := .ref o0) rfl mo rfl) (pe_glob (v := .ref z0) rfl mz rfl)))), ?_⟩
    refine ⟨_, rfl, _, rfl, by omega, by omega, fun D nD => ?_⟩
    refine lc_fr (K := K) (walk_rng0 (n := ((n : Nat) : Int).toNat)) (unitL n j) (by unfold unitL; rw [List.length_map, List.length_range, Int.toNat_natCast]) nD (by omega) (fun _ _ => trivial) ?_ ?_
    · rintro i x H1 H2 q hq e1 ⟨rfl, rfl⟩ k hk
      have eq2 := unitL_at hq
      refine ⟨rfl, _, rfl, _, rfl, rfl, _, rfl, ?_⟩
      by_cases h : ((i : Nat) : Int) = j
      · refine iteB (decide_eq_true (by rw [h])) (hk _ _ (.refl _) ?_)
        rw [eq2, if_pos h]
        exact fr_one so0
      · refine iteBF (decide_eq_false fun z => h (V.int.inj z)) (hk _ _ (.refl _) ?_)
        rw [eq2, if_neg h]
        exact fr_zero sz0
    · exact fun H1 e1 hL => kk D H1 e1 nD hL
/-! ### lessened -/
def spLessened (K : PySem.W.Frag) : Sp := fun vs H Q _ => ∃ a b x rs os q k, vs = [.ref a, .ref b, x] ∧ LstF K H a rs ∧ LstF K H b os ∧ Fr K H x q ∧ rs.length = os.length ∧ rs.length ≤ 100 ∧ SzR k rs ∧ SzR k os ∧ Sz k q ∧ k ≤ 100000 ∧
  ∀ p H', Same H H' → H p = none → LstF K H' p (lessL rs os q) → Q (.ref p) H'
theorem scLessened : FnScope ["row", "other", "factor", "a", "b"] ["row", "other", "factor"] (defScope (topS 24)) := ⟨rfl, rfl, rfl, by decide +kernel, rfl, by decide +kernel, by decide +kernel⟩
theorem d_lessened (T : Tx P K mg base) : Def P w K mg base "lessened" 43 ["row", "other", "factor"] (spLessened K) := by
  obtain ⟨f, fd, hm, F⟩ := T.lessened
  refine ⟨f, fd, hm, F.kp, F.binds (ps := ["row", "other", "factor"]) fun _ _ _ _ _ _ us hl => match us, hl with | [_, _, _], _ => rfl, F.ok scLessened (fun vs H Q E h => ?_) (fun cdv A outer s H vs Q E hr h => ?_)⟩
  · obtain ⟨a, b, x, rs, os, q, k, rfl, _⟩ := h
    rfl
  · obtain ⟨a, b, x, rs, os, q, k, rfl, ⟨xs, hX, fX⟩, ⟨ys, hY, fY⟩, hx, hl, hl2, sr, so, sq, hk, kk⟩ := h
    refine ⟨_, pss_one (ps_ret (pe_lc (own := [("a", 3), ("b", 4)]) (g := gPair K 3 4) (tt := tYes) rfl scLessened.nd (pi_zipS T.bZip (pa_cons (pv 0) (pa_cons (pv 1) pa_nil)))
      (blkOk_by (N := ["row", "other", "factor", "a", "b"]) (sc := defScope (topS 24)) (by decide +kernel))
      (fun _ _ _ _ _ => pg_tup rfl (pgs_cons (pg_name (i := 3) scLessened.nd rfl (.inl rfl)) (pgs_cons (pg_name (i := 4) scLessened.nd rfl (.inl rfl)) pgs_nil))) (fun _ _ _ _ _ => pts_nil)
      (fun _ _ _ _ _ => pe_def (d_minus T) (hr.mono (by decide)) (pa_cons (pv 3) (pa_cons (pe_def (d_times T) (hr.mono (by decide)) (pa_cons (pv 2) (pa_cons (pv 4) pa_nil))) pa_nil))))), ?_⟩
    have lx := fX.len
    have ly := fY.len
    refine ⟨_, rfl, _, rfl, .l, .l, a, b, xs, ys, rfl, .of hX, .of hY, fun D nD => ?_⟩
    refine lc_fr (K := K) (walk_zipS (by omega)) (lessL rs os q) (by rw [lessL_len hl]; exact lx.symm) nD (by omega) (fun H' e => ⟨e.seq (.of hX), e.seq (.of hY)⟩) ?_ ?_
    · rintro i v H1 H2 r hr2 e1 ⟨t, u, y, rfl, nt, rfl, hu, hy⟩ kc hkc
      obtain ⟨p1, hp1, fp⟩ := fX.getV hu
      obtain ⟨p2, hp2, fq⟩ := fY.getV hy
      have er := lessL_at hr2 hp1 hp2
      subst er
      have e2 : Same H1 (upd H1 t (.tup [u, y])) := same_new nt
      have e12 := e1.trans e2
      refine ⟨t, _, rfl, .of upd_same, rfl, _, _, rfl, _, _, rfl, rfl, rfl, ?_⟩
      have s1 := sr _ (List.mem_of_getElem? hp1)
      have s2 := so _ (List.mem_of_getElem? hp2)
      refine ⟨u, rfl, x, rfl, y, rfl, _, _, _, _, rfl, hx.same e12, fq.same e12, sz_small sq (by omega), sz_small s2 (by omega), trivial, fun v3 H3 e3 f3 => ?_⟩
      exact ⟨_, _, _, _, rfl, fp.same (e12.trans e3), f3, sz_small s1 (by omega), sz_small (sq.mul s2) (by omega), trivial, fun v4 H4 e4 f4 => hkc v4 H4 ((e2.trans e3).trans e4) f4⟩
    · exact fun H1 e1 hL => kk D H1 e1 nD hL
end
end BR
end
section
/-! The elimination's step as the program does it, on a list of rows; for two rows it is El.step. -/
namespace BR
def rowL (L : List (List Rat)) (k : Nat) : List Rat := L.getD k []
def ksL (L : List (List Rat)) (top c : Nat) : List Nat := (List.range' top (L.length - top)).filter fun k => !decide (atR (rowL L k) c = 0)
def swapL (L : List (List Rat)) (i j : Nat) : List (List Rat) := (L.set i (rowL L j)).set j (rowL L i)
def leadL (L : List (List Rat)) (top c : Nat) : List Rat := scaleL (rowL L top) (atR (rowL L top) c)
def nextL (L : List (List Rat)) (top c : Nat) : List (List Rat) := L.mapIdx fun k r => if k = top then leadL L top c else lessL r (leadL L top c) (atR r c)
theorem filter_one {p : Nat → Bool} {k : Nat} : [k].filter p = if p k = true then [k] else [] := by
  rw [List.filter_cons]
  rfl
theorem ks_zero (r0 r1 : List Rat) (c : Nat) : ksL [r0, r1] 0 c = (if ¬ atR r0 c = 0 then [0] else []) ++ (if ¬ atR r1 c = 0 then [1] else []) := by
  show ([0, 1] : List Nat).filter _ = _
  rw [show ([0, 1] : List Nat) = [0] ++ [1] from rfl, List.filter_append, filter_one, filter_one]
  have e0 : atR (rowL [r0, r1] 0) c = atR r0 c := rfl
  have e1 : atR (rowL [r0, r1] 1) c = atR r1 c := rfl
  rw [e0, e1]
  congr 1
  · by_cases h : atR r0 c = 0
    · rw [if_neg (by rw [decide_eq_true h]; exact Bool.false_ne_true), if_neg (fun z => z h)]
    · rw [if_pos (by rw [decide_eq_false h]; rfl), if_pos h]
  · by_cases h : atR r1 c = 0
    · rw [if_neg (by rw [decide_eq_true h]; exact Bool.false_ne_true), if_neg (fun z => z h)]
    · rw [if_pos (by rw [decide_eq_false h]; rfl), if_pos h]
theorem ks_one (r0 r1 : List Rat) (c : Nat) : ksL [r0, r1] 1 c = if ¬ atR r1 c = 0 then [1] else [] := by
  show ([1] : List Nat).filter _ = _
  rw [filter_one]
  have e1 : atR (rowL [r0, r1] 1) c = atR r1 c := rfl
  rw [e1]
  by_cases h : atR r1 c = 0
  · rw [if_neg (by rw [decide_eq_true h]; exact Bool.false_ne_true), if_neg (fun z => z h)]
  · rw [if_pos (by rw [decide_eq_false h]; rfl), if_pos h]
theorem ks_two (r0 r1 : List Rat) (c : Nat) : ksL [r0, r1] 2 c = [] := rfl
/-- what a column does to two rows -/
structure StepIs (s : El) (c : Nat) (ks : List Nat) : Prop where
  none : ks = [] → s.step c = s
  some : ∀ k0 rest, ks = k0 :: rest → s.leads.length ≤ k0 ∧ k0 < 2 ∧ s.leads.length < 2 ∧ atR (rowL (swapL [s.r0, s.r1] s.leads.length k0) s.leads.length) c ≠ 0 ∧
    nextL (swapL [s.r0, s.r1] s.leads.length k0) s.leads.length c = [(s.step c).r0, (s.step c).r1] ∧ (s.step c).leads = s.leads ++ [c]
theorem step_is {S : Nat} {a b : List Rat} {g h : Rat} {n c : Nat} {s : El} (o : ElOk S a b g h n c s) : StepIs s c (ksL [s.r0, s.r1] s.leads.length c) := by
  obtain ⟨r0, r1, ls⟩ := s
  rcases ls with _ | ⟨p, _ | ⟨q, _ | ⟨t, ls⟩⟩⟩
  · show StepIs ⟨r0, r1, []⟩ c (ksL [r0, r1] 0 c)
    rw [ks_zero]
    by_cases h0 : atR r0 c = 0
    · rw [if_neg (fun z => z h0), List.nil_append]
      by_cases h1 : atR r1 c = 0
      · rw [if_neg (fun z => z h1)]
        exact ⟨fun _ => step_c (fun z => z h0) (fun z => z h1), fun k0 rest e => by cases e⟩
      · rw [if_pos h1]
        refine ⟨fun e => (by cases e), fun k0 rest e => ?_⟩
        cases e
        rw [step_b (fun z => z h0) h1]
        exact ⟨Nat.zero_le _, by decide, show 0 < 2 by decide, h1, rfl, rfl⟩
    · rw [if_pos h0]
      refine ⟨fun e => (by cases e), fun k0 rest e => ?_⟩
      have ek : k0 = 0 := by
        injection e with e1 _
        exact e1.symm
      subst ek
      rw [step_a h0]
      exact ⟨Nat.zero_le _, by decide, show 0 < 2 by decide, h0, rfl, rfl⟩
  · show StepIs ⟨r0, r1, [p]⟩ c (ksL [r0, r1] 1 c)
    rw [ks_one]
    by_cases h1 : atR r1 c = 0
    · rw [if_neg (fun z => z h1)]
      exact ⟨fun _ => step_e (fun z => z h1), fun k0 rest e => by cases e⟩
    · rw [if_pos h1]
      refine ⟨fun e => (by cases e), fun k0 rest e => ?_⟩
      cases e
      rw [step_d h1]
      exact ⟨Nat.le_refl _, by decide, show 1 < 2 by decide, h1, rfl, rfl⟩
  · show StepIs ⟨r0, r1, [p, q]⟩ c (ksL [r0, r1] 2 c)
    rw [ks_two]
    exact ⟨fun _ => step_f, fun k0 rest e => by cases e⟩
  · exact False.elim o.ech
end BR
end
section
set_option Elab.async false
set_option linter.all false
set_option maxRecDepth 100000
namespace BR
open PySem PySem.Spec PyProof.Rows L2
theorem walk_rngN {t n : Nat} : Walk (Itr ((t : Nat) : Int) n) n (fun _ => True) (fun i H x H' => H' = H ∧ x = .int ((t + i : Nat) : Int)) :=
  ⟨fun _ _ hi _ => hi, fun _ _ => Nat.le_refl _, fun i H x H' _ _ y => ⟨y.1, y.2⟩⟩
theorem ixN_nat {n k : Nat} (h : k < n) : ixN n ((k : Nat) : Int) = some k := by
  unfold ixN
  rw [if_pos (by omega), if_pos (by omega), Int.toNat_natCast]
theorem LstF.bt {K : PySem.W.Frag} {D p : Addr} {H H' : Hp} {r : List Rat} (b : Bt D H H') (ne : p ≠ D) (h : LstF K H p r) : LstF K H' p r := by
  obtain ⟨vs, hp, f⟩ := h
  exact ⟨vs, b.but p _ ne hp, f.tk b.tk⟩
theorem LstF.here {K : PySem.W.Frag} {p : Addr} {H : Hp} {r : List Rat} (h : LstF K H p r) : H p ≠ none := by
  obtain ⟨vs, hp, _⟩ := h
  rw [hp]
  exact fun z => nomatch z
theorem LstF.get {K : PySem.W.Frag} {p : Addr} {H : Hp} {r : List Rat} {c : Nat} (h : LstF K H p r) (hc : c < r.length) : ∃ v vs, H p = some (.lst vs) ∧ atI vs ((c : Nat) : Int) = some v ∧ Fr K H v (atR r c) := by
  obtain ⟨vs, hp, f⟩ := h
  obtain ⟨v, hv, fv⟩ := f.get (List.getElem?_eq_getElem hc)
  have e : atR r c = r[c] := by
    unfold atR
    rw [List.getD_eq_getElem?_getD, List.getElem?_eq_getElem hc]
    rfl
  exact ⟨v, vs, hp, atI_nat hv, by rw [e]; exact fv⟩
/-- a list of lists of fractions: la is another list beside it -/
structure WL (K : PySem.W.Frag) (H : Hp) (wa la : Addr) (L : List (List Rat)) (ps : List Addr) : Prop where
  at' : H wa = some (.lst (ps.map V.ref))
  len : ps.length = L.length
  row : ∀ (i : Nat) (p : Addr) (r : List Rat), ps[i]? = some p → L[i]? = some r → LstF K H p r ∧ p ≠ wa ∧ p ≠ la
theorem rowL_at {L : List (List Rat)} {k : Nat} (h : k < L.length) : L[k]? = some (rowL L k) := by
  unfold rowL
  rw [List.getD_eq_getElem?_getD, List.getElem?_eq_getElem h]
  rfl
theorem WL.get {K : PySem.W.Frag} {H : Hp} {wa la : Addr} {L : List (List Rat)} {ps : List Addr} {k : Nat} (h : WL K H wa la L ps) (hk : k < L.length) :
    ∃ p, ps[k]? = some p ∧ atI (ps.map V.ref) ((k : Nat) : Int) = some (.ref p) ∧ LstF K H p (rowL L k) ∧ p ≠ wa ∧ p ≠ la := by
  have hp : k < ps.length := by rw [h.len]; exact hk
  have e := List.getElem?_eq_getElem hp
  exact ⟨ps[k], e, atI_nat (by rw [List.getElem?_map, e]; rfl), h.row k _ _ e (rowL_at hk)⟩
theorem WL.same {K : PySem.W.Frag} {H H' : Hp} {wa la : Addr} {L : List (List Rat)} {ps : List Addr} (e : Same H H') (h : WL K H wa la L ps) : WL K H' wa la L ps :=
  ⟨e _ _ h.at', h.len, fun i p r a b => ⟨(h.row i p r a b).1.same e, (h.row i p r a b).2⟩⟩
/-- a store to the list la beside it -/
theorem WL.beside {K : PySem.W.Frag} {H : Hp} {wa la : Addr} {L : List (List Rat)} {ps : List Addr} {xs ys : List V} (ne : wa ≠ la) (hl : H la = some (.lst xs)) (h : WL K H wa la L ps) : WL K (upd H la (.lst ys)) wa la L ps :=
  ⟨by rw [upd_ne ne]; exact h.at', h.len, fun i p r a b => ⟨(h.row i p r a b).1.bt (.put hl) (h.row i p r a b).2.2, (h.row i p r a b).2⟩⟩
theorem WL.swap {K : PySem.W.Frag} {H : Hp} {wa la : Addr} {L : List (List Rat)} {ps : List Addr} {i j : Nat} {p q : Addr} (h : WL K H wa la L ps) (hi : i < L.length) (hj : j < L.length) (hp : ps[i]? = some p) (hq : ps[j]? = some q) :
    WL K (upd (upd H wa (.lst ((ps.map V.ref).set i (.ref q)))) wa (.lst (((ps.map V.ref).set i (.ref q)).set j (.ref p)))) wa la (swapL L i j) ((ps.set i q).set j p) := by
  have b : Bt wa H (upd (upd H wa (.lst ((ps.map V.ref).set i (.ref q)))) wa (.lst (((ps.map V.ref).set i (.ref q)).set j (.ref p)))) := by
    rw [upd_upd]
    exact .put h.at'
  refine ⟨by rw [upd_same, List.map_set, List.map_set], by unfold swapL; rw [List.length_set, List.length_set, List.length_set, List.length_set]; exact h.len, fun k x r a e => ?_⟩
  have key : LstF K H x r ∧ x ≠ wa ∧ x ≠ la := by
    unfold swapL at e
    have lp := h.len
    by_cases hkj : j = k
    · subst hkj
      rw [List.getElem?_set_self (by rw [List.length_set]; omega)] at a
      rw [List.getElem?_set_self (by rw [List.length_set]; exact hj)] at e
      rw [← Option.some.inj a, ← Option.some.inj e]
      exact h.row i p _ hp (rowL_at hi)
    · rw [List.getElem?_set_ne hkj] at a e
      by_cases hki : i = k
      · subst hki
        rw [List.getElem?_set_self (by omega)] at a
        rw [List.getElem?_set_self hi] at e
        rw [← Option.some.inj a, ← Option.some.inj e]
        exact h.row j q _ hq (rowL_at hj)
      · rw [List.getElem?_set_ne hki] at a e
        exact h.row k x r a e
  exact ⟨key.1.bt b key.2.1, key.2⟩
/-- values that are references -/
theorem refs_of : ∀ (ys : List V) (R : Nat → Addr → Prop), (∀ (i : Nat) (v : V), ys[i]? = some v → ∃ p, v = .ref p ∧ R i p) → ∃ ps : List Addr, ys = ps.map V.ref ∧ ∀ (i : Nat) (p : Addr), ps[i]? = some p → R i p
  | [], R, _ => ⟨[], rfl, fun i p h => by simp at h⟩
  | y :: ys, R, h => by
    obtain ⟨p, rfl, hp⟩ := h 0 y rfl
    obtain ⟨ps, rfl, hps⟩ := refs_of ys (fun i => R (i + 1)) fun i v e => h (i + 1) v (by simpa using e)
    refine ⟨p :: ps, rfl, fun i q e => ?_⟩
    cases i with
    | zero =>
      rw [← Option.some.inj (show some p = some q from e)]
      exact hp
    | succ i => exact hps i q (by simpa using e)

/-! ### lists of ints, compared with [] -/
def intsD (ks : List Nat) : List PyData := ks.map fun k => .int ((k : Nat) : Int)
theorem ints_dp {K : PySem.W.Frag} {H : Hp} : ∀ ks : List Nat, DpAll K H (ks.map fun k => .int ((k : Nat) : Int)) (intsD ks)
  | [] => .nil
  | k :: ks => .cons (.int _) (ints_dp ks)
theorem ints_lay : ∀ ks : List Nat, PyData.canLayAll0 (intsD ks) = true ∧ PyData.depthAll (intsD ks) ≤ 1
  | [] => ⟨by simp [intsD, PyData.canLayAll0], by simp [intsD, PyData.depthAll]⟩
  | k :: ks => by
    obtain ⟨h1, h2⟩ := ints_lay ks
    unfold intsD at h1 h2 ⊢
    refine ⟨?_, ?_⟩
    · rw [List.map_cons, PyData.canLayAll0, h1]
      simp [PyData.canLay0]
    · rw [List.map_cons, PyData.depthAll]
      simp [PyData.depth]
      exact h2
theorem ints_shaped (ks : List Nat) : SeqAt.shaped (.list (intsD ks)) = true := by
  obtain ⟨h1, h2⟩ := ints_lay ks
  unfold SeqAt.shaped
  rw [PyData.canLay0, h1, PyData.depth]
  simp
  omega
end BR
end
section
set_option Elab.async false
set_option linter.all false
set_option maxRecDepth 100000
set_option maxHeartbeats 1000000
namespace BR
open PySem PySem.Spec PyProof.Rows L2
/-- the state of the loop over the columns -/
structure RedI (K : PySem.W.Frag) (H H' : Hp) (wa la : Addr) (ps : List Addr) (s : El) : Prop where
  sm : Same H H'
  fw : H wa = none
  fl : H la = none
  ne : wa ≠ la
  wl : WL K H' wa la [s.r0, s.r1] ps
  ld : H' la = some (.lst (s.leads.map fun l => .int ((l : Nat) : Int)))
def spReduced (K : PySem.W.Frag) : Sp := fun vs H Q _ => ∃ ax ay u0 u1 a b g h, vs = [.ref ax, .ref ay] ∧ SqT K H ax [u0, u1] ∧ TupF K H u0 a ∧ TupF K H u1 b ∧ TupF K H (.ref ay) [g, h] ∧ b.length = a.length ∧ 1 ≤ a.length ∧ a.length ≤ 10 ∧
  SzR 1202 a ∧ SzR 1202 b ∧ Sz 1202 g ∧ Sz 1202 h ∧ ∀ t wa la ps H', SqT K H' t [.ref wa, .ref la] → RedI K H H' wa la ps (elim a b g h a.length) → Q (.ref t) H'
abbrev nReduced : List Str := ["rows", "goals", "size", "count", "wide", "leads", "column", "top", "some", "lead", "k", "part"]
theorem scReduced : FnScope nReduced ["rows", "goals"] (defScope (topS 25)) := ⟨rfl, rfl, rfl, by decide +kernel, rfl, by decide +kernel, by decide +kernel⟩
def rListOf (K : PySem.W.Frag) : List V → Hp → VK → Prop := fun xs H Q => ∃ p ys, xs = [.ref p] ∧ (SqL K H p ys ∨ SqT K H p ys) ∧ ∀ l, H l = none → Q (.ref l) (upd H l (.lst ys))
theorem RedI.same {K : PySem.W.Frag} {H H' H2 : Hp} {wa la : Addr} {ps : List Addr} {s : El} (e : Same H' H2) (h : RedI K H H' wa la ps s) : RedI K H H2 wa la ps s :=
  ⟨h.sm.trans e, h.fw, h.fl, h.ne, h.wl.same e, e _ _ h.ld⟩
theorem rowL_len {L : List (List Rat)} {n k : Nat} (h : ∀ r ∈ L, r.length = n) (hk : k < L.length) : (rowL L k).length = n := h _ (List.mem_of_getElem? (rowL_at hk))
theorem filter_snoc {p : Nat → Bool} {t j : Nat} : (List.range' t (j + 1)).filter p = (List.range' t j).filter p ++ (if p (t + j) = true then [t + j] else []) := by
  rw [List.range'_1_concat, List.filter_append, filter_one]
theorem filter_le {p : Nat → Bool} {t j : Nat} : ((List.range' t j).filter p).length ≤ j := by
  refine Nat.le_trans (List.length_filter_le ..) ?_
  rw [List.length_range']
  exact Nat.le_refl _
theorem unit_two0 : unitL 2 ((0 : Nat) : Int) = [1, 0] := by decide +kernel
theorem unit_two1 : unitL 2 ((1 : Nat) : Int) = [0, 1] := by decide +kernel
section
variable {P : Program} {w : World} {K : PySem.W.Frag} {mg : Str → Option Value} {base : Heap}
theorem d_reduced (T : Tx P K mg base) : Def P w K mg base "reduced" 44 ["rows", "goals"] (spReduced K) := by
  obtain ⟨f, fd, hm, F⟩ := T.reduced
  refine ⟨f, fd, hm, F.kp, F.binds (ps := ["rows", "goals"]) fun _ _ _ _ _ _ us hl => match us, hl with | [_, _], _ => rfl, F.ok scReduced (fun vs H Q E h => ?_) (fun cdv A outer s H vs Q E hr h => ?_)⟩
  · obtain ⟨ax, ay, u0, u1, a, b, g, h, rfl, _⟩ := h
    rfl
  · obtain ⟨ax, ay, u0, u1, a, b, g, h, rfl, hS, hA, hB, ⟨_, gvs, eay, hG, fG⟩, hl, hl1, hl2, sa, sb, sg, sh, kk⟩ := h
    cases eay
    obtain ⟨z0, mz, sz0⟩ := T.zero
    have ixK : ∀ {X : Cx} (hK : X.K = K), IxR X (rIxL K) := fun hK => hK ▸ ix_list
    -- the body of the loop
    refine ⟨_, pss_cons (ps_asg (pe_tup (pa_cons (pe_callB call_len_seq (by rfl) T.bLen PySem.boot_len (pa_cons (pv 0) pa_nil)) (pa_cons (pe_callB call_len_seq (by rfl) T.bLen PySem.boot_len (pa_cons (pe_ix ix_tup (pv 0) pe_int fun _ _ => rfl) pa_nil)) pa_nil)))
        (pg_tup rfl (pgs_cons (pg_name (i := 2) scReduced.nd rfl (.inr rfl)) (pgs_cons (pg_name (i := 3) scReduced.nd rfl (.inl rfl)) pgs_nil))))
      (pss_cons (ps_set (i := 4) scReduced.nd rfl (.inr rfl) (pe_lc (own := [("k", 10)]) (g := gName 10) (tt := tYes)
          (te := tOp rCat (tOp rCat (tCB (rListOf K) (tCons (tOp (rIxT K) (tVar 0) (tVar 10)) tNil)) (tLst (tCons (tOp (rIxT K) (tVar 1) (tVar 10)) tNil))) (tCall (spUnit K) [] E0 (tCons (tVar 2) (tCons (tVar 10) tNil))))
          rfl scReduced.nd (pi_range1 rfl T.bRange (pa_cons (pv 2) pa_nil)) (blkOk_by (N := nReduced) (sc := defScope (topS 25)) (by decide +kernel)) (fun _ _ _ _ _ => pg_name (i := 10) scReduced.nd rfl (.inl rfl)) (fun _ _ _ _ _ => pts_nil)
          (fun _ _ _ _ _ => pe_op op_cat (pe_op op_cat (pe_callTy call_list_of (by rfl) T.bList PyProof.Rows.boot_list (pa_cons (pe_ix ix_tup (pv 0) (pv 10) fun _ _ => rfl) pa_nil)) (pe_lst (pa_cons (pe_ix ix_tup (pv 1) (pv 10) fun _ _ => rfl) pa_nil)))
            (pe_def (d_unit T) (hr.mono (by decide)) (pa_cons (pv 2) (pa_cons (pv 10) pa_nil))))))
      (pss_cons (ps_set (i := 5) scReduced.nd rfl (.inl rfl) (pe_lst pa_nil))
      (pss_cons (ps_for PassesOwn.never rfl (pi_range1 rfl T.bRange (pa_cons (pv 3) pa_nil)) (pg_name (i := 6) scReduced.nd rfl (.inr rfl))
        (pss_cons (ps_set (i := 7) scReduced.nd rfl (.inr rfl) (pe_callB call_len_seq (by rfl) T.bLen PySem.boot_len (pa_cons (pv 5) pa_nil)))
        (pss_cons (ps_setLc (i := 8) (own := [("k", 10)]) (g := gName 10) (tt := tTest (tOp (rNeF K) (tOp (rIxL K) (tOp (rIxL K) (tVar 4) (tVar 10)) (tVar 6)) (tC (.ref z0)))) (te := tVar 10) rfl scReduced.nd rfl rfl (sw_true rfl rfl rfl (by decide +kernel))
          (pi_range2 (by rfl) T.bRange (pa_cons (pv 7) (pa_cons (pv 2) pa_nil))) (blkOk_by (N := nReduced) (sc := defScope (topS 25)) (by decide +kernel)) (fun _ _ _ _ _ => pg_name (i := 10) scReduced.nd rfl (.inl rfl))
          (fun _ _ _ _ _ => pts_one (pt_cmpR (op_neF (hr.mono (by decide))) (pe_ix ix_list (pe_ix ix_list (pv 4) (pv 10) fun _ _ => rfl) (pv 6) fun _ _ => rfl) (pe_glob (v := .ref z0) rfl mz rfl) (nomark _)))
          (fun _ _ _ _ _ => pv 10))
        (pss_one (ps_if (pt_cmpR (op_neD hr.units) (pv 8) (pe_lst pa_nil) (nomark _))
          (pss_cons (ps_asg (pe_tup (pa_cons (pe_ix ix_list (pv 4) (pe_ix ix_list (pv 8) pe_int fun _ _ => rfl) fun _ _ => rfl) (pa_cons (pe_ix ix_list (pv 4) (pv 7) fun _ _ => rfl) pa_nil)))
              (pg_tup rfl (pgs_cons (pg_sub (pv 4) (pv 7) set_list) (pgs_cons (pg_sub (pv 4) (pe_ix ix_list (pv 8) pe_int fun _ _ => rfl) set_list) pgs_nil))))
          (pss_cons (ps_set (i := 9) scReduced.nd rfl (.inr rfl) (pe_lc (own := [("part", 11)]) (g := gName 11) (tt := tYes)
              (te := tCall (spBin K neQ (· / ·)) [] E0 (tCons (tVar 11) (tCons (tOp (rIxL K) (tOp (rIxL K) (tVar 4) (tVar 7)) (tVar 6)) tNil)))
              rfl scReduced.nd (pi_list (pe_ix ix_list (pv 4) (pv 7) fun _ _ => rfl)) (blkOk_by (N := nReduced) (sc := defScope (topS 25)) (by decide +kernel)) (fun _ _ _ _ _ => pg_name (i := 11) scReduced.nd rfl (.inl rfl)) (fun _ _ _ _ _ => pts_nil)
              (fun _ _ _ _ _ => pe_def (d_over T) (hr.mono (by decide)) (pa_cons (pv 11) (pa_cons (pe_ix ix_list (pe_ix ix_list (pv 4) (pv 7) fun _ _ => rfl) (pv 6) fun _ _ => rfl) pa_nil)))))
          (pss_cons (ps_set (i := 4) scReduced.nd rfl (.inr rfl) (pe_lc (own := [("k", 10)]) (g := gName 10) (tt := tYes)
              (te := tIf (tTest (tOp rEq (tVar 10) (tVar 7))) (tVar 9) (tCall (spLessened K) [] E0 (tCons (tOp (rIxL K) (tVar 4) (tVar 10)) (tCons (tVar 9) (tCons (tOp (rIxL K) (tOp (rIxL K) (tVar 4) (tVar 10)) (tVar 6)) tNil)))))
              rfl scReduced.nd (pi_range1 rfl T.bRange (pa_cons (pv 2) pa_nil)) (blkOk_by (N := nReduced) (sc := defScope (topS 25)) (by decide +kernel)) (fun _ _ _ _ _ => pg_name (i := 10) scReduced.nd rfl (.inl rfl)) (fun _ _ _ _ _ => pts_nil)
              (fun _ _ _ _ _ => pe_ifExp (pt_cmpR op_eq (pv 10) (pv 7) (nomark _)) (pv 9) (pe_def (d_lessened T) (hr.mono (by decide)) (pa_cons (pe_ix ix_list (pv 4) (pv 10) fun _ _ => rfl) (pa_cons (pv 9) (pa_cons (pe_ix ix_list (pe_ix ix_list (pv 4) (pv 10) fun _ _ => rfl) (pv 6) fun _ _ => rfl) pa_nil)))))))
          (pss_one (ps_expr (pe_bm PySem.F.plainAttrs_list PySem.F.slot_list_append PySem.F.type_list_append mt_append (pv 5) (pa_cons (pv 6) pa_nil))))))) pss_nil)))))
      (pss_one (ps_ret (pe_tup (pa_cons (pv 4) (pa_cons (pv 5) pa_nil)))))))), ?_⟩
    obtain ⟨ra, rvs, rfl, hA2, fA⟩ := hA
    obtain ⟨rb, rws, rfl, hB2, fB⟩ := hB
    -- size, count
    refine ⟨_, rfl, ax, _, rfl, .inr hS, _, rfl, ax, _, 0, _, rfl, rfl, hS, atI_zero, ra, _, rfl, .inr hA2, by show 2 ≤ sizeLine; decide, fun t0 nt0 => ?_⟩
    refine ⟨t0, _, rfl, .of upd_same, rfl, _, _, rfl, _, _, rfl, rfl, ?_⟩
    have e0 : Same H (upd H t0 (.tup [.int (([V.ref ra, V.ref rb].length : Nat) : Int), .int ((rvs.length : Nat) : Int)])) := same_new nt0
    have hn : rvs.length = a.length := fA.len
    rw [hn] at e0 ⊢
    generalize (upd H t0 (.tup [.int (([V.ref ra, V.ref rb].length : Nat) : Int), .int ((a.length : Nat) : Int)])) = H1 at e0 ⊢
    -- wide
    have pick : ∀ i, i < 2 → ∃ p vs r x q, ([V.ref ra, V.ref rb])[i]? = some (.ref p) ∧ SqT K H p vs ∧ Frs K H vs r ∧ r.length = a.length ∧ gvs[i]? = some x ∧ Fr K H x q ∧ ([wide0 a g, wide1 b h])[i]? = some (r ++ [q] ++ unitL 2 ((i : Nat) : Int)) := by
      intro i hi
      match i, hi with
      | 0, _ =>
        obtain ⟨x, hx, fx⟩ := fG.get (i := 0) rfl
        exact ⟨ra, rvs, a, x, g, rfl, hA2, fA, rfl, hx, fx, by rw [unit_two0]; rfl⟩
      | 1, _ =>
        obtain ⟨x, hx, fx⟩ := fG.get (i := 1) rfl
        exact ⟨rb, rws, b, x, h, rfl, hB2, fB, hl, hx, fx, by rw [unit_two1]; rfl⟩
    refine ⟨_, rfl, 2, rfl, by decide, by decide, fun D nD => ?_⟩
    refine lc_gen (walk_rng0 (n := 2)) (fun i H' v => ∀ r, ([wide0 a g, wide1 b h])[i]? = some r → ∃ p, v = .ref p ∧ p ≠ D ∧ LstF K H' p r) nD (by decide) (fun _ _ => trivial)
      (fun i H2 H3 v bt r q hq => by obtain ⟨p, e, ne, hL⟩ := r q hq; exact ⟨p, e, ne, hL.bt bt ne⟩) ?_ ?_
    · rintro i x H2 H3 acc hi e1 hD ⟨rfl, rfl⟩ k hk
      obtain ⟨p, vs, r, x, q, h1, h2, h3, h4, h5, h6, h7⟩ := pick i hi
      have e01 := e0.trans e1
      refine ⟨rfl, _, rfl, _, rfl, ax, _, _, _, rfl, rfl, sqT_tk (.same e01) hS, atI_nat h1, p, vs, rfl, .inr (sqT_tk (.same e01) h2), fun l1 n1 => ?_⟩
      have s1 : Same H3 (upd H3 l1 (.lst vs)) := same_new n1
      refine ⟨_, rfl, _, rfl, ay, gvs, _, x, rfl, rfl, sqT_tk (.same (e01.trans s1)) hG, atI_nat h5, by show 1 ≤ sizeLine; decide, fun l2 n2 => ?_⟩
      have s2 : Same (upd H3 l1 (.lst vs)) (upd (upd H3 l1 (.lst vs)) l2 (.lst [x])) := same_new n2
      have lv : vs.length = a.length := h3.len.trans h4
      refine ⟨l1, l2, vs, [x], rfl, rfl, s2 _ _ upd_same, upd_same, Nat.le_of_lt (small1000 (by show vs.length + 1 ≤ 1000; omega)), fun l3 n3 => ?_⟩
      have s3 : Same (upd (upd H3 l1 (.lst vs)) l2 (.lst [x])) (upd (upd (upd H3 l1 (.lst vs)) l2 (.lst [x])) l3 (.lst (vs ++ [x]))) := same_new n3
      refine ⟨_, rfl, _, rfl, 2, ((i : Nat) : Int), rfl, by decide, fun p4 H4 s4 np4 ⟨us, hp4, f4⟩ => ?_⟩
      have s123 := (s1.trans s2).trans s3
      refine ⟨l3, p4, vs ++ [x], us, rfl, rfl, s4 _ _ upd_same, hp4, ?_, fun l5 n5 => ?_⟩
      · have lu : us.length = 2 := f4.len.trans (by unfold unitL; rw [List.length_map, List.length_range])
        exact Nat.le_of_lt (small1000 (by rw [List.length_append, lu]; show vs.length + 1 + 2 ≤ 1000; omega))
      · have s5 : Same H4 (upd H4 l5 (.lst (vs ++ [x] ++ us))) := same_new n5
        have sAll := (s123.trans s4).trans s5
        refine hk _ _ sAll fun r' hr' => ?_
        rw [h7] at hr'
        rw [← Option.some.inj hr']
        refine ⟨l5, rfl, ?_, _, upd_same, ?_⟩
        · intro e
          have q1 := (s123.trans s4) D _ hD
          rw [e, ] at n5
          rw [q1] at n5
          cases n5
        · exact ((h3.same ((e01.trans s123).trans (s4.trans s5))).append (.cons (h6.same ((e01.trans s123).trans (s4.trans s5))) .nil)).append (f4.same s5)
    · intro H2 ys e1 hD hly hR
      have e02 := e0.trans e1
      have fD : H D = none := e0.free nD
      -- leads
      refine ⟨Nat.zero_le _, fun la nla => ?_⟩
      have e3 : Same H2 (upd H2 la (.lst [])) := same_new nla
      have fla : H la = none := e02.free nla
      obtain ⟨ps, rfl, hps⟩ := refs_of ys (fun i p => ∀ r, ([wide0 a g, wide1 b h])[i]? = some r → p ≠ D ∧ LstF K H2 p r) (fun i v hv => by
        have hi : i < 2 := by
          have := (List.getElem?_eq_some_iff.mp hv).1
          omega
        obtain ⟨p, _, r, _, _, _, _, _, _, _, _, h7⟩ := pick i hi
        obtain ⟨p, e, ne, hL⟩ := hR i v hv _ h7
        exact ⟨p, e, fun r' hr' => by rw [h7] at hr'; rw [← Option.some.inj hr']; exact ⟨ne, hL⟩⟩)
      have neDl : D ≠ la := ne_of_none hD nla
      have start : RedI K H (upd H2 la (.lst [])) D la ps (elim a b g h 0) :=
        ⟨e02.trans e3, fD, fla, neDl, ⟨e3 _ _ hD, by rw [List.length_map] at hly; exact hly, fun i p r hp hr2 => by
          obtain ⟨ne, hL⟩ := hps i p hp r hr2
          exact ⟨hL.same e3, ne, fun e => hL.here (e ▸ nla)⟩⟩, upd_same⟩
      generalize upd H2 la (.lst []) = H3 at start ⊢
      refine ⟨_, rfl, ((a.length : Nat) : Int), rfl, by omega, by omega, ?_⟩
      refine for_it (walk_rng0 (n := (((a.length : Nat) : Int)).toNat)) (fun i σ H' => ∃ wa la ps y6 y7 y8 y9 y10 y11, σ = [some (.ref ax), some (.ref ay), some (.int 2), some (.int ((a.length : Nat) : Int)), some (.ref wa), some (.ref la), y6, y7, y8, y9, y10, y11] ∧
        RedI K H H' wa la ps (elim a b g h i)) ⟨D, la, ps, none, none, none, none, none, none, rfl, start⟩ (fun _ _ _ _ _ => trivial) ?_ ?_
      · clear start hps hR hD hly neDl nla nD fD fla e1 e3 e02 ps la D H2 H3
        rintro i x σ H3 H4 hi ⟨wa, la, ps, y6, y7, y8, y9, y10, y11, rfl, I⟩ ⟨rfl, rfl⟩
        have hi : i < a.length := by omega
        have o := elim_ok (S := 1202) (by decide) rfl hl sa sb sg sh i
        have es : elim a b g h (i + 1) = (elim a b g h i).step i := rfl
        rw [es]
        clear es
        generalize elim a b g h i = s at o I ⊢
        have top2 := El.lead_le o
        have rl : ∀ r ∈ [s.r0, s.r1], r.length = a.length + 3 := fun r hr => by
          rcases List.mem_cons.mp hr with e | hr
          · rw [e]; exact o.l0
          · rw [List.mem_singleton.mp hr]; exact o.l1
        have sI := step_is o
        -- top
        refine ⟨_, rfl, la, _, rfl, .inl (.of I.ld), ?_⟩
        rw [List.length_map]
        -- some
        refine ⟨_, rfl, _, rfl, ((s.leads.length : Nat) : Int), 2, rfl, ⟨by omega, by omega, by omega, by omega⟩, fun D nD => ?_⟩
        refine lc_it (walk_rngN (t := s.leads.length) (n := (2 - ((s.leads.length : Nat) : Int)).toNat)) (fun j H5 => Same H4 H5 ∧ H5 D = some (.lst (((List.range' s.leads.length j).filter fun k => !decide (atR (rowL [s.r0, s.r1] k) i = 0)).map fun k => .int ((k : Nat) : Int))))
          ⟨same_new nD, upd_same⟩ (fun _ _ _ _ => trivial) ?_ ?_
        · rintro j x H5 H6 hj ⟨e5, hD5⟩ ⟨rfl, rfl⟩
          have hk : s.leads.length + j < 2 := by omega
          have W := I.wl.same e5
          obtain ⟨pk, _, atk, Lk, _⟩ := W.get (k := s.leads.length + j) hk
          obtain ⟨v, us, hpk, atv, fv⟩ := Lk.get (c := i) (by rw [rowL_len rl hk]; omega)
          refine ⟨rfl, _, rfl, _, rfl, wa, _, _, _, rfl, rfl, .of W.at', atk, _, rfl, pk, us, _, v, rfl, rfl, .of hpk, atv, _, 0, fv, fr_zero sz0, _, rfl, ?_⟩
          by_cases hz : atR (rowL [s.r0, s.r1] (s.leads.length + j)) i = 0
          · refine iteBF (ndecF hz) ⟨e5, ?_⟩
            rw [filter_snoc, if_neg (by rw [ndecF hz]; exact Bool.false_ne_true), List.append_nil]
            exact hD5
          · refine iteB (ndec hz) ⟨_, rfl, _, hD5, small1000 (by rw [List.length_map]; have := filter_le (p := fun k => !decide (atR (rowL [s.r0, s.r1] k) i = 0)) (t := s.leads.length) (j := j); omega), same_put nD e5, ?_⟩
            rw [upd_same, filter_snoc, if_pos (ndec hz), List.map_append]
            rfl
        · rintro H5 ⟨e5, hD5⟩
          have ek : ((List.range' s.leads.length (2 - ((s.leads.length : Nat) : Int)).toNat).filter fun k => !decide (atR (rowL [s.r0, s.r1] k) i = 0)) = ksL [s.r0, s.r1] s.leads.length i := by
            unfold ksL
            rw [show (2 - ((s.leads.length : Nat) : Int)).toNat = [s.r0, s.r1].length - s.leads.length from by show _ = 2 - s.leads.length; omega]
          rw [ek] at hD5
          clear ek
          -- if some != []
          refine ⟨_, rfl, Nat.zero_le _, fun l nl => ?_⟩
          have e6 : Same H5 (upd H5 l (.lst [])) := same_new nl
          have hD6 := e6 _ _ hD5
          have I6 := I.same (e5.trans e6)
          refine ⟨.list (intsD (ksL [s.r0, s.r1] s.leads.length i)), .list [], .lst (.of hD6) (ints_dp _), .lst (.of upd_same) .nil, ints_shaped _, ints_shaped [], _, rfl, ?_⟩
          generalize upd H5 l (.lst []) = H6 at e6 hD6 I6 ⊢
          cases hks : ksL [s.r0, s.r1] s.leads.length i with
          | nil =>
            refine iteBF (by simp [intsD, PyData.eqv, PyData.eqvAll]) ?_
            rw [sI.none hks]
            exact ⟨wa, la, ps, _, _, _, _, _, _, rfl, I6⟩
          | cons k0 rest =>
            refine iteB (by simp [intsD, PyData.eqv, PyData.eqvAll]) ?_
            obtain ⟨t1, k2, t2, piv, hnext, hleads⟩ := sI.some k0 rest hks
            rw [hks] at hD6
            -- wide[top], wide[some[0]] = wide[some[0]], wide[top]
            obtain ⟨pq, hpq, atq, Lq, _⟩ := I6.wl.get (k := k0) k2
            obtain ⟨pt, hpt, att, Lt, _⟩ := I6.wl.get (k := s.leads.length) t2
            have at0 : atI ((k0 :: rest).map fun k => V.int ((k : Nat) : Int)) 0 = some (.int ((k0 : Nat) : Int)) := atI_nat (j := 0) rfl
            have lp : (ps.map V.ref).length = 2 := by rw [List.length_map, I6.wl.len]; rfl
            have neDw : D ≠ wa := fun e => by
              have q1 := I.wl.at'
              rw [← e, nD] at q1
              cases q1
            refine ⟨_, rfl, _, rfl, D, _, 0, _, rfl, rfl, .of hD6, at0, wa, _, _, _, rfl, rfl, .of I6.wl.at', atq, _, rfl, _, rfl, wa, _, _, _, rfl, rfl, .of I6.wl.at', att, by show 2 ≤ sizeLine; decide, fun t nt => ?_⟩
            have e7 : Same H6 (upd H6 t (.tup [.ref pq, .ref pt])) := same_new nt
            have I7 := I6.same e7
            refine ⟨t, _, rfl, .of upd_same, rfl, _, _, rfl, _, rfl, _, rfl, wa, _, _, s.leads.length, rfl, rfl, I7.wl.at', ixN_nat (by rw [lp]; exact t2), ?_⟩
            refine ⟨_, _, rfl, _, rfl, _, rfl, D, _, 0, _, rfl, rfl, .of (by rw [upd_ne neDw]; exact e7 _ _ hD6), at0, wa, _, _, k0, rfl, rfl, upd_same, ixN_nat (by rw [List.length_set, lp]; exact k2), rfl, ?_⟩
            have W8 := I7.wl.swap (i := s.leads.length) (j := k0) t2 k2 hpt hpq
            have sm8 : Same H (upd (upd (upd H6 t (.tup [.ref pq, .ref pt])) wa (.lst ((ps.map V.ref).set s.leads.length (.ref pq)))) wa (.lst (((ps.map V.ref).set s.leads.length (.ref pq)).set k0 (.ref pt)))) := same_put I6.fw (same_put I6.fw I7.sm)
            have ld8 : (upd (upd (upd H6 t (.tup [.ref pq, .ref pt])) wa (.lst ((ps.map V.ref).set s.leads.length (.ref pq)))) wa (.lst (((ps.map V.ref).set s.leads.length (.ref pq)).set k0 (.ref pt)))) la = some (.lst (s.leads.map fun l => .int ((l : Nat) : Int))) := by
              rw [upd_ne I6.ne.symm, upd_ne I6.ne.symm]
              exact I7.ld
            generalize (upd (upd (upd H6 t (.tup [.ref pq, .ref pt])) wa (.lst ((ps.map V.ref).set s.leads.length (.ref pq)))) wa (.lst (((ps.map V.ref).set s.leads.length (.ref pq)).set k0 (.ref pt)))) = H8 at W8 sm8 ld8 ⊢
            generalize ((ps.set s.leads.length pq).set k0 pt) = ps8 at W8
            have fwa := I6.fw
            have fla := I6.fl
            have new := I6.ne
            have szL : ∀ r ∈ [s.r0, s.r1], SzR 20000 r := fun r hr => by
              have g2 := grown_two (S := 1202) top2
              rcases List.mem_cons.mp hr with e | hr
              · rw [e]; exact o.s0.mono (by omega)
              · rw [List.mem_singleton.mp hr]; exact o.s1.mono (by omega)
            have swM : ∀ r ∈ swapL [s.r0, s.r1] s.leads.length k0, r ∈ [s.r0, s.r1] := fun r hr => by
              unfold swapL at hr
              rcases List.mem_or_eq_of_mem_set hr with h1 | h1
              · rcases List.mem_or_eq_of_mem_set h1 with h2 | h2
                · exact h2
                · rw [h2]; exact List.mem_of_getElem? (rowL_at k2)
              · rw [h1]; exact List.mem_of_getElem? (rowL_at t2)
            have swl : (swapL [s.r0, s.r1] s.leads.length k0).length = 2 := by unfold swapL; rw [List.length_set, List.length_set]; rfl
            generalize swapL [s.r0, s.r1] s.leads.length k0 = L8 at W8 piv hnext swM swl
            clear hks hpq atq Lq hpt att Lt at0 lp neDw hD6 e7 I7 nt I6 e6 e5 hD5 nD nl I t1 rest t
            have sz8 : ∀ r ∈ L8, SzR 20000 r := fun r hr => szL r (swM r hr)
            have ln8 : ∀ r ∈ L8, r.length = a.length + 3 := fun r hr => rl r (swM r hr)
            -- lead
            obtain ⟨pt, _, att, Lt, _⟩ := W8.get (k := s.leads.length) (by omega)
            obtain ⟨tvs, hpt, fpt⟩ := id Lt
            have mt : rowL L8 s.leads.length ∈ L8 := List.mem_of_getElem? (rowL_at (by omega))
            have lt8 := ln8 _ mt
            refine ⟨_, rfl, _, rfl, wa, _, _, _, rfl, rfl, .of W8.at', att, pt, rfl, ⟨_, .of hpt⟩, fun D2 nD2 => ?_⟩
            refine lc_fr (K := K) (walk_list (xs := tvs)) (leadL L8 s.leads.length i) (by unfold leadL; rw [scaleL_len]; exact fpt.len.symm) nD2 (by rw [fpt.len, lt8]; omega) (fun H' e => e.seq (.of hpt)) ?_ ?_
            · rintro j v H9 H10 q hq e9 ⟨rfl, hv⟩ k hk
              obtain ⟨r, hr1, fr⟩ := fpt.getV hv
              have W9 := W8.same e9
              obtain ⟨pt2, _, att2, Lt2, _⟩ := W9.get (k := s.leads.length) (by omega)
              obtain ⟨v2, us, hpt2, atv, fv⟩ := Lt2.get (c := i) (by omega)
              have eq2 : q = r / atR (rowL L8 s.leads.length) i := by
                unfold leadL scaleL at hq
                rw [List.getElem?_map, hr1] at hq
                exact (Option.some.inj hq).symm
              subst eq2
              have s1 := sz8 _ mt _ (List.mem_of_getElem? hr1)
              have s2 := (sz8 _ mt).at (by decide) i
              exact ⟨rfl, _, rfl, _, rfl, _, rfl, wa, _, _, _, rfl, rfl, .of W9.at', att2, _, rfl, pt2, us, _, v2, rfl, rfl, .of hpt2, atv, _, _, _, _, rfl, fr.same e9, fv, sz_small s1 (by decide), sz_small s2 (by decide), piv, fun v4 H4 e4 f4 => hk v4 H4 e4 f4⟩
            · intro H9 e9 hLead
              have W9 := W8.same e9
              have sm9 := sm8.trans e9
              have ld9 := e9 _ _ ld8
              have neD2l : D2 ≠ la := fun e => by
                rw [e, ld8] at nD2
                cases nD2
              clear hpt fpt nD2 e9 sm8 ld8 W8 H8 Lt
              have szLead : SzR 40001 (leadL L8 s.leads.length i) := ((sz8 _ mt).scale2 ((sz8 _ mt).at (by decide) i)).mono (by decide)
              have lnLead : (leadL L8 s.leads.length i).length = a.length + 3 := by unfold leadL; rw [scaleL_len]; exact lt8
              -- wide
              refine ⟨_, rfl, 2, rfl, by decide, by decide, fun D3 nD3 => ?_⟩
              refine lc_gen (walk_rng0 (n := 2)) (fun j H' v => ∀ r, (nextL L8 s.leads.length i)[j]? = some r → ∃ p, v = .ref p ∧ p ≠ D3 ∧ p ≠ la ∧ LstF K H' p r) nD3 (by decide) (fun _ _ => trivial)
                (fun j H2 H3 v bt r q hq => by obtain ⟨p, e, n1, n2, hL⟩ := r q hq; exact ⟨p, e, n1, n2, hL.bt bt n1⟩) ?_ ?_
              · rintro j x H10 H11 acc hj e10 hD3 ⟨rfl, rfl⟩ k hk
                have W10 := W9.same e10
                have ej : ∀ r, (nextL L8 s.leads.length i)[j]? = some r → r = if j = s.leads.length then leadL L8 s.leads.length i else lessL (rowL L8 j) (leadL L8 s.leads.length i) (atR (rowL L8 j) i) := fun r hr => by
                  unfold nextL at hr
                  rw [List.getElem?_mapIdx, rowL_at (by omega)] at hr
                  exact (Option.some.inj hr).symm
                refine ⟨rfl, _, rfl, _, rfl, rfl, _, rfl, ?_⟩
                by_cases hjt : j = s.leads.length
                · refine iteB (decide_eq_true (by rw [hjt])) ⟨_, rfl, hk _ _ (.refl _) fun r hr => ?_⟩
                  rw [ej r hr, if_pos hjt]
                  exact ⟨D2, rfl, fun e => hLead.here (e ▸ nD3), neD2l, hLead.same e10⟩
                · refine iteBF (decide_eq_false fun z => hjt (Int.ofNat.inj (V.int.inj z))) ?_
                  obtain ⟨pj, _, atj, Lj, _⟩ := W10.get (k := j) (by omega)
                  obtain ⟨v2, us, hpj, atv, fv⟩ := Lj.get (c := i) (by rw [rowL_len ln8 (by omega)]; omega)
                  have mj : rowL L8 j ∈ L8 := List.mem_of_getElem? (rowL_at (by omega))
                  refine ⟨_, rfl, _, rfl, wa, _, _, _, rfl, rfl, .of W10.at', atj, _, rfl, _, rfl, _, rfl, wa, _, _, _, rfl, rfl, .of W10.at', atj, _, rfl, pj, us, _, v2, rfl, rfl, .of hpj, atv, ?_⟩
                  refine ⟨pj, D2, v2, rowL L8 j, leadL L8 s.leads.length i, atR (rowL L8 j) i, 40001, rfl, Lj, hLead.same e10, fv, by rw [ln8 _ mj, lnLead], by rw [ln8 _ mj]; omega, (sz8 _ mj).mono (by decide), szLead, ((sz8 _ mj).at (by decide) i).mono (by decide), by decide, fun p H12 e12 np hL => ?_⟩
                  refine hk _ _ e12 fun r hr => ?_
                  rw [ej r hr, if_neg hjt]
                  refine ⟨p, rfl, fun e => ?_, fun e => ?_, hL⟩
                  · rw [e, hD3] at np
                    cases np
                  · rw [e, e10 _ _ ld9] at np
                    cases np
              · intro H10 ys e10 hD3 hly hR
                have sm10 := sm9.trans e10
                have ld10 := e10 _ _ ld9
                have fD3 : H D3 = none := sm9.free nD3
                have neD3l : D3 ≠ la := fun e => by
                  rw [e, ld9] at nD3
                  cases nD3
                have nl2 : (nextL L8 s.leads.length i).length = 2 := by unfold nextL; rw [List.length_mapIdx]; exact swl
                obtain ⟨qs, rfl, hqs⟩ := refs_of ys (fun j p => ∀ r, (nextL L8 s.leads.length i)[j]? = some r → p ≠ D3 ∧ p ≠ la ∧ LstF K H10 p r) (fun j v hv => by
                  have hj := (List.getElem?_eq_some_iff.mp hv).1
                  obtain ⟨p, e, n1, n2, hL⟩ := hR j v hv _ (List.getElem?_eq_getElem (by omega))
                  exact ⟨p, e, fun r' hr' => by rw [List.getElem?_eq_getElem (by omega)] at hr'; rw [← Option.some.inj hr']; exact ⟨n1, n2, hL⟩⟩)
                have W10 : WL K H10 D3 la (nextL L8 s.leads.length i) qs := ⟨hD3, by rw [List.length_map] at hly; omega, fun j p r hp hr2 => by
                  obtain ⟨n1, n2, hL⟩ := hqs j p hp r hr2
                  exact ⟨hL, n1, n2⟩⟩
                rw [hnext] at W10
                -- leads.append(column)
                refine ⟨_, rfl, .inl ⟨rfl, _, .of ld10⟩, _, rfl, la, _, _, rfl, rfl, ld10, small1000 (by rw [List.length_map]; omega), ?_⟩
                refine ⟨D3, la, qs, _, _, _, _, _, _, rfl, same_put fla sm10, fD3, fla, neD3l, W10.beside neD3l ld10, ?_⟩
                rw [upd_same, hleads, List.map_append]
                rfl
      · rintro σ H4 ⟨wa, la, ps, y6, y7, y8, y9, y10, y11, rfl, I⟩
        refine ⟨_, rfl, _, rfl, by show 2 ≤ sizeLine; decide, fun t nt => ?_⟩
        have e4 : (((a.length : Nat) : Int)).toNat = a.length := Int.toNat_natCast _
        rw [e4] at I
        exact kk t wa la ps _ (.of upd_same) (I.same (same_new nt))
end
end BR
end
section
set_option Elab.async false
set_option linter.all false
set_option maxRecDepth 100000
set_option maxHeartbeats 1000000
namespace BR
open PySem PySem.Spec PyProof.Rows L2
theorem bls_of {α : Type} {L : List α} {f : α → Bool} {ys : List V} (hl : ys.length = L.length) (h : ∀ (i : Nat) (v : V) (r : α), ys[i]? = some v → L[i]? = some r → v = .bl (f r)) : ys = (L.map f).map V.bl := by
  refine List.ext_getElem? fun i => ?_
  rw [List.getElem?_map, List.getElem?_map]
  by_cases hi : i < ys.length
  · rw [List.getElem?_eq_getElem hi, List.getElem?_eq_getElem (hl ▸ hi)]
    exact congrArg some (h i _ _ (List.getElem?_eq_getElem hi) (List.getElem?_eq_getElem (hl ▸ hi)))
  · rw [List.getElem?_eq_none (Nat.le_of_not_lt hi), List.getElem?_eq_none (by omega)]
    rfl
theorem any_map {α : Type} (f : α → Bool) : ∀ L : List α, (L.map f).any id = L.any f
  | [] => rfl
  | x :: L => by
    rw [List.map_cons, List.any_cons, List.any_cons, any_map f L]
    rfl
theorem all_map {α : Type} (f : α → Bool) : ∀ L : List α, (L.map f).all id = L.all f
  | [] => rfl
  | x :: L => by
    rw [List.map_cons, List.all_cons, List.all_cons, all_map f L]
    rfl
theorem flat_rep {α : Type} (x : α) : ∀ n : Nat, (List.replicate n [x]).flatten = List.replicate n x
  | 0 => rfl
  | n + 1 => by
    rw [List.replicate_succ, List.flatten_cons, flat_rep x n]
    rfl
theorem frs_rep {K : PySem.W.Frag} {H : Hp} {v : V} {q : Rat} (h : Fr K H v q) (n : Nat) : Frs K H (List.replicate n v) (List.replicate n q) := by
  refine ⟨by rw [List.length_replicate, List.length_replicate], fun i u p a b => ?_⟩
  rw [List.getElem?_replicate] at a b
  split at a
  · rename_i hi
    rw [if_pos hi] at b
    rw [← Option.some.inj a, ← Option.some.inj b]
    exact h
  · cases a
theorem leads_lt {c : Nat} {r0 r1 : List Rat} : ∀ {ls : List Nat}, Ech c r0 r1 ls → ∀ l ∈ ls, l < c
  | [], _, l, h => by cases h
  | [p], e, l, h => by
    rw [List.mem_singleton.mp h]
    exact e.1
  | [p, q], e, l, h => by
    have e1 : p < q := e.1
    have e2 : q < c := e.2.1
    rcases List.mem_cons.mp h with h | h
    · omega
    · have := List.mem_singleton.mp h
      omega
  | _ :: _ :: _ :: _, e, _, _ => False.elim e
theorem find_at {α : Type} {p : α → Bool} : ∀ {L : List α} {i : Nat} {r : α}, L[i]? = some r → p r = true → (∀ (j : Nat) (x : α), j < i → L[j]? = some x → p x = false) → L.find? p = some r
  | [], i, r, h, _, _ => by simp at h
  | x :: L, 0, r, h, hp, _ => by
    have e : x = r := Option.some.inj h
    rw [e, List.find?_cons, hp]
  | x :: L, i + 1, r, h, hp, hn => by
    rw [List.find?_cons, hn 0 x (Nat.succ_pos _) rfl]
    exact find_at (L := L) (i := i) (by simpa using h) hp fun j y hj hy => hn (j + 1) y (Nat.succ_lt_succ hj) (by simpa using hy)
theorem find_none {α : Type} {p : α → Bool} {L : List α} (hn : ∀ (j : Nat) (x : α), L[j]? = some x → p x = false) : L.find? p = none := by
  rw [List.find?_eq_none]
  intro x hx
  obtain ⟨j, hj⟩ := List.mem_iff_getElem?.mp hx
  rw [hn j x hj]
  exact Bool.false_ne_true
def OptT (K : PySem.W.Frag) (H : Hp) (v : V) : Option (List Rat) → Prop
  | none => v = .non
  | some x => TupF K H v x
theorem OptT.same {K : PySem.W.Frag} {H H' : Hp} {v : V} {o : Option (List Rat)} (e : Same H H') (h : OptT K H v o) : OptT K H' v o := by
  cases o with
  | none => exact h
  | some x => exact TupF.same e h
/-- rows and goals of two equations, as solution, bar, reduced get them -/
structure SysOk (K : PySem.W.Frag) (H : Hp) (ax ay : Addr) (a b : List Rat) (g h : Rat) : Prop where
  rows : ∃ u0 u1, SqT K H ax [u0, u1] ∧ TupF K H u0 a ∧ TupF K H u1 b
  goals : TupF K H (.ref ay) [g, h]
  len : b.length = a.length
  len1 : 1 ≤ a.length
  len2 : a.length ≤ 10
  sa : SzR 1202 a
  sb : SzR 1202 b
  sg : Sz 1202 g
  sh : Sz 1202 h
theorem SysOk.same {K : PySem.W.Frag} {H H' : Hp} {ax ay : Addr} {a b : List Rat} {g h : Rat} (e : Same H H') (s : SysOk K H ax ay a b g h) : SysOk K H' ax ay a b g h :=
  ⟨by obtain ⟨u0, u1, x, y, z⟩ := s.rows; exact ⟨u0, u1, sqT_tk (.same e) x, y.same e, z.same e⟩, s.goals.same e, s.len, s.len1, s.len2, s.sa, s.sb, s.sg, s.sh⟩
def spSys (K : PySem.W.Frag) (fn : List Rat → List Rat → Rat → Rat → Option (List Rat)) : Sp := fun vs H Q _ => ∃ ax ay a b g h, vs = [.ref ax, .ref ay] ∧ SysOk K H ax ay a b g h ∧ ∀ v H', Same H H' → OptT K H' v (fn a b g h) → Q v H'
section
variable {P : Program} {w : World} {K : PySem.W.Frag} {mg : Str → Option Value} {base : Heap}
abbrev nSolution : List Str := ["rows", "goals", "count", "wide", "leads", "found", "row", "column"]
theorem scSolution : FnScope nSolution ["rows", "goals"] (defScope (topS 26)) := ⟨rfl, rfl, rfl, by decide +kernel, rfl, by decide +kernel, by decide +kernel⟩
theorem d_solution (T : Tx P K mg base) : Def P w K mg base "solution" 45 ["rows", "goals"] (spSys K solF) := by
  obtain ⟨f, fd, hm, F⟩ := T.solution
  refine ⟨f, fd, hm, F.kp, F.binds (ps := ["rows", "goals"]) fun _ _ _ _ _ _ us hl => match us, hl with | [_, _], _ => rfl, F.ok scSolution (fun vs H Q E h => ?_) (fun cdv A outer s H vs Q E hr h => ?_)⟩
  · obtain ⟨ax, ay, a, b, g, h, rfl, _⟩ := h
    rfl
  · obtain ⟨ax, ay, a, b, g, h, rfl, hs, kk⟩ := h
    obtain ⟨z0, mz, sz0⟩ := T.zero
    refine ⟨_, pss_cons (ps_set (i := 2) scSolution.nd rfl (.inr rfl) (pe_callB call_len_seq (by rfl) T.bLen PySem.boot_len (pa_cons (pe_ix ix_tup (pv 0) pe_int fun _ _ => rfl) pa_nil)))
      (pss_cons (ps_asg (pe_def (d_reduced T) (hr.mono (by decide)) (pa_cons (pv 0) (pa_cons (pv 1) pa_nil))) (pg_tup rfl (pgs_cons (pg_name (i := 3) scSolution.nd rfl (.inl rfl)) (pgs_cons (pg_name (i := 4) scSolution.nd rfl (.inl rfl)) pgs_nil))))
      (pss_cons (ps_if (pt_val (pe_callB (cr_any rfl) (by rfl) T.bAny PyProof.Rows.boot_any (pa_cons
          (pe_lc (own := [("row", 6)]) (g := gName 6) (tt := tYes) (te := tOp (rNeF K) (tOp (rIxL K) (tVar 6) (tVar 2)) (tC (.ref z0))) rfl scSolution.nd
            (pi_list (pe_slice sl_list (pv 3) (po_some (pe_callB call_len_seq (by rfl) T.bLen PySem.boot_len (pa_cons (pv 4) pa_nil))) po_none)) (blkOk_by (N := nSolution) (sc := defScope (topS 26)) (by decide +kernel))
            (fun _ _ _ _ _ => pg_name (i := 6) scSolution.nd rfl (.inl rfl)) (fun _ _ _ _ _ => pts_nil)
            (fun _ _ _ _ _ => pe_cmpR (op_neF (hr.mono (by decide))) (pe_ix ix_list (pv 6) (pv 2) fun _ _ => rfl) (pe_glob (v := .ref z0) rfl mz rfl) (nomark _))) pa_nil))) (pss_one (ps_ret pe_non)) pss_nil)
      (pss_cons (ps_set (i := 5) scSolution.nd rfl (.inl rfl) (pe_op op_rep (pe_lst (pa_cons (pe_glob (v := .ref z0) rfl mz rfl) pa_nil)) (pv 2)))
      (pss_cons (ps_for PassesOwn.never rfl (pi_zipF T.bZip (pa_cons (pv 3) (pa_cons (pv 4) pa_nil))) (pg_tup rfl (pgs_cons (pg_name (i := 6) scSolution.nd rfl (.inl rfl)) (pgs_cons (pg_name (i := 7) scSolution.nd rfl (.inl rfl)) pgs_nil)))
        (pss_one (ps_asg (pe_ix ix_list (pv 6) (pv 2) fun _ _ => rfl) (pg_sub (pv 5) (pv 7) set_list))))
      (pss_one (ps_ret (pe_callTy call_tuple_of (by rfl) T.bTuple PyProof.Rows.boot_tuple (pa_cons (pv 5) pa_nil)))))))), ?_⟩
    obtain ⟨u0, u1, hS, ⟨ra, rvs, rfl, hA, fA⟩, hB⟩ := hs.rows
    have hn : rvs.length = a.length := fA.len
    refine ⟨_, rfl, ax, _, 0, _, rfl, rfl, hS, atI_zero, ra, _, rfl, .inr hA, ?_⟩
    rw [hn]
    refine ⟨_, rfl, _, rfl, ax, ay, _, _, a, b, g, h, rfl, hS, ⟨ra, rvs, rfl, hA, fA⟩, hB, hs.goals, hs.len, hs.len1, hs.len2, hs.sa, hs.sb, hs.sg, hs.sh, fun t wa la ps H1 hT I => ?_⟩
    refine ⟨t, _, rfl, hT, rfl, _, _, rfl, _, _, rfl, rfl, ?_⟩
    have o := elim_ok (S := 1202) (by decide) rfl hs.len hs.sa hs.sb hs.sg hs.sh a.length
    have esol : solF a b g h = (elim a b g h a.length).sol a.length := rfl
    rw [esol] at kk
    clear esol
    have hl2 := hs.len2
    generalize elim a b g h a.length = s at o I kk
    have top2 := El.lead_le o
    have rl : ∀ r ∈ [s.r0, s.r1], r.length = a.length + 3 := fun r hr => by
      rcases List.mem_cons.mp hr with e | hr
      · rw [e]; exact o.l0
      · rw [List.mem_singleton.mp hr]; exact o.l1
    have lps : ps.length = 2 := I.wl.len
    -- any(..)
    refine ⟨_, rfl, _, rfl, la, _, rfl, .inl (.of I.ld), _, rfl, wa, _, rfl, .of I.wl.at', fun p np => ?_⟩
    rw [List.length_map, cut_from, ← List.map_drop]
    have e1 : Same H1 (upd H1 p (.lst ((ps.drop s.leads.length).map V.ref))) := same_new np
    have I1 := I.same e1
    have hp1 : (upd H1 p (.lst ((ps.drop s.leads.length).map V.ref))) p = some (.lst ((ps.drop s.leads.length).map V.ref)) := upd_same
    generalize upd H1 p (.lst ((ps.drop s.leads.length).map V.ref)) = H2 at e1 I1 hp1 ⊢
    refine ⟨p, rfl, ⟨_, .of hp1⟩, fun D nD => ?_⟩
    have dl : (ps.drop s.leads.length).length = ([s.r0, s.r1].drop s.leads.length).length := by rw [List.length_drop, List.length_drop, I.wl.len]
    refine lc_gen (walk_list (xs := (ps.drop s.leads.length).map V.ref)) (fun i H' v => ∀ r, ([s.r0, s.r1].drop s.leads.length)[i]? = some r → v = .bl (!decide (atR r a.length = 0))) nD (by rw [List.length_map, List.length_drop]; omega) (fun H' e => e.seq (.of hp1))
      (fun i H3 H4 v _ r q => r q) ?_ ?_
    · rintro i x H3 H4 acc hi e3 hD ⟨rfl, hx⟩ k hk
      have W3 := I1.wl.same e3
      rw [List.length_map, List.length_drop] at hi
      obtain ⟨pi, hpi, _, Li, _⟩ := W3.get (k := s.leads.length + i) (by show _ < 2; omega)
      rw [List.getElem?_map, List.getElem?_drop, hpi] at hx
      have ex : V.ref pi = x := Option.some.inj hx
      subst ex
      obtain ⟨v, us, hpu, atv, fv⟩ := Li.get (c := a.length) (by rw [rowL_len rl (by show _ < 2; omega)]; omega)
      refine ⟨rfl, _, rfl, _, rfl, pi, us, _, v, rfl, rfl, .of hpu, atv, _, 0, fv, fr_zero sz0, hk _ _ (.refl _) fun r hr2 => ?_⟩
      rw [List.getElem?_drop, rowL_at (by show _ < 2; omega)] at hr2
      rw [← Option.some.inj hr2]
    · intro H3 ys e3 hD hly hR
      rw [List.length_map] at hly
      have hb := bls_of (L := [s.r0, s.r1].drop s.leads.length) (f := fun r => !decide (atR r a.length = 0)) (by omega) fun i v r hv hr2 => hR i v hv r hr2
      have I3 := I1.same e3
      refine ⟨D, _, rfl, .of (by rw [← hb]; exact hD), ?_⟩
      rw [any_map]
      refine ⟨_, rfl, ?_⟩
      by_cases hany : ([s.r0, s.r1].drop s.leads.length).any (fun r => !decide (atR r a.length = 0)) = true
      · refine iteB hany (kk _ _ I3.sm ?_)
        have e : s.sol a.length = none := if_pos hany
        rw [e]
        exact rfl
      · refine iteBF (Bool.eq_false_iff.mpr hany) ?_
        have e : s.sol a.length = some (([s.r0, s.r1].zip s.leads).foldl (fun f rc => f.set rc.2 (atR rc.1 a.length)) (List.replicate a.length 0)) := if_neg hany
        rw [e] at kk
        clear e hany hb hR hD hly nD e3 dl np
        -- found
        refine ⟨by show 1 ≤ sizeLine; decide, fun l nl => ⟨_, rfl, l, ((a.length : Nat) : Int), _, rfl, rfl, upd_same, by omega, by omega, ?_, fun fa nfa => ?_⟩⟩
        · rw [Int.toNat_natCast]
          exact Nat.le_of_lt (small1000 (by show 1 * a.length ≤ 1000; omega))
        rw [Int.toNat_natCast, flat_rep]
        have e4 : Same H3 (upd H3 l (.lst [.ref z0])) := same_new nl
        have I4 := I3.same e4
        generalize upd H3 l (.lst [.ref z0]) = H4 at e4 I4 nfa ⊢
        have I5 := I4.same (same_new (o := .lst (List.replicate a.length (.ref z0))) nfa)
        have ffa : H fa = none := I4.sm.free nfa
        have hF5 : LstF K (upd H4 fa (.lst (List.replicate a.length (.ref z0)))) fa (List.replicate a.length 0) := ⟨_, upd_same, frs_rep (fr_zero sz0) _⟩
        have nfw : wa ≠ fa := ne_of_none I4.wl.at' nfa
        have nfl : la ≠ fa := ne_of_none I4.ld nfa
        have nfp : ∀ (i : Nat) (q : Addr), ps[i]? = some q → q ≠ fa := fun i q hq e => by
          have hi := (List.getElem?_eq_some_iff.mp hq).1
          have hL := (I4.wl.row i q _ hq (rowL_at (by show _ < 2; omega))).1.here
          rw [e] at hL
          exact hL nfa
        generalize upd H4 fa (.lst (List.replicate a.length (.ref z0))) = H5 at I5 hF5 ⊢
        have hlead := leads_lt o.ech
        refine ⟨_, rfl, _, rfl, wa, la, _, _, rfl, .of I5.wl.at', .of I5.ld, ?_⟩
        refine for_it (walk_zip (xs := ps.map V.ref) (ys := s.leads.map fun l => .int ((l : Nat) : Int)) rfl) (fun i σ H' => ∃ y6 y7, σ = [some (.ref ax), some (.ref ay), some (.int ((a.length : Nat) : Int)), some (.ref wa), some (.ref la), some (.ref fa), y6, y7] ∧
          RedI K H H' wa la ps s ∧ LstF K H' fa ((([s.r0, s.r1].zip s.leads).take i).foldl (fun f rc => f.set rc.2 (atR rc.1 a.length)) (List.replicate a.length 0))) ⟨none, none, rfl, I5, hF5⟩ (fun i σ H' _ ⟨_, _, _, I, _⟩ => ⟨.of I.wl.at', .of I.ld⟩) ?_ ?_
        · rintro i v σ H6 H7 hi ⟨y6, y7, rfl, I6, ⟨fvs, hf6, ff6⟩⟩ ⟨t, x, y, rfl, nt, rfl, hx, hy⟩
          rw [List.length_map, List.length_map] at hi
          have hil : i < s.leads.length := by omega
          have hi2 : i < 2 := by omega
          have I7 := I6.same (same_new (o := .tup [x, y]) nt)
          obtain ⟨pi, hpi, _, Li, _⟩ := I7.wl.get (k := i) hi2
          have hx : (ps.map V.ref)[i]? = some x := hx
          have hy : (s.leads.map fun l => V.int ((l : Nat) : Int))[i]? = some y := hy
          rw [List.getElem?_map, hpi] at hx
          have ex : V.ref pi = x := Option.some.inj hx
          subst ex
          rw [List.getElem?_map, List.getElem?_eq_getElem hil] at hy
          have ey : V.int ((s.leads[i] : Nat) : Int) = y := Option.some.inj hy
          subst ey
          obtain ⟨v, us, hpu, atv, fv⟩ := Li.get (c := a.length) (by rw [rowL_len rl hi2]; omega)
          refine ⟨t, _, rfl, .of upd_same, rfl, _, _, rfl, _, _, rfl, rfl, ?_⟩
          have hf7 := (same_new (o := .tup [V.ref pi, V.int ((s.leads[i] : Nat) : Int)]) nt) _ _ hf6
          have ff7 := ff6.same (same_new (o := .tup [V.ref pi, V.int ((s.leads[i] : Nat) : Int)]) nt)
          generalize upd H6 t (.tup [V.ref pi, V.int ((s.leads[i] : Nat) : Int)]) = H7 at I7 hf7 ff7 hpu fv ⊢
          have lfold : ∀ (l : List (List Rat × Nat)) (z : List Rat), (l.foldl (fun f rc => f.set rc.2 (atR rc.1 a.length)) z).length = z.length := fun l => by
            induction l with
            | nil => intro z; rfl
            | cons rc l ih => intro z; rw [List.foldl_cons, ih, List.length_set]
          have lf : fvs.length = a.length := by rw [ff6.len, lfold, List.length_replicate]
          have hli : s.leads[i] < a.length := hlead _ (List.getElem_mem hil)
          refine ⟨_, rfl, _, rfl, pi, us, _, v, rfl, rfl, .of hpu, atv, _, rfl, _, rfl, fa, fvs, _, s.leads[i], rfl, rfl, hf7, ixN_nat (by rw [lf]; exact hli), ?_⟩
          have bt : Bt fa H7 (upd H7 fa (.lst (fvs.set s.leads[i] v))) := .put hf7
          refine ⟨_, _, rfl, ⟨same_put ffa I7.sm, I7.fw, I7.fl, I7.ne, ⟨by rw [upd_ne nfw]; exact I7.wl.at', I7.wl.len, fun j q r hq hr2 => ?_⟩, by rw [upd_ne nfl]; exact I7.ld⟩, ⟨_, upd_same, ?_⟩⟩
          · have R := I7.wl.row j q r hq hr2
            exact ⟨R.1.bt bt (nfp j q hq), R.2⟩
          · have hz : ([s.r0, s.r1].zip s.leads)[i]? = some (rowL [s.r0, s.r1] i, s.leads[i]) := by
              rw [List.getElem?_zip_eq_some]
              exact ⟨rowL_at hi2, List.getElem?_eq_getElem hil⟩
            rw [List.take_add_one, hz, List.foldl_append]
            exact (ff7.tk bt.tk).set (fv.tk bt.tk) _
        · rintro σ H6 ⟨y6, y7, rfl, I6, ⟨fvs, hf6, ff6⟩⟩
          have et : (([s.r0, s.r1].zip s.leads).take (min (ps.map V.ref).length (s.leads.map fun l => V.int ((l : Nat) : Int)).length)) = [s.r0, s.r1].zip s.leads := by
            refine List.take_of_length_le ?_
            rw [List.length_zip, List.length_map, List.length_map, lps]
            exact Nat.le_refl _
          rw [et] at ff6
          refine ⟨_, rfl, fa, fvs, rfl, .inl ⟨.of hf6, fun t nt => kk _ _ (I6.sm.trans (same_new nt)) ⟨t, fvs, rfl, .of upd_same, ff6.same (same_new nt)⟩⟩⟩
end
end BR
end
section
set_option Elab.async false
set_option linter.all false
set_option maxRecDepth 100000
set_option maxHeartbeats 1000000
namespace BR
open PySem PySem.Spec PyProof.Rows L2
section
variable {P : Program} {w : World} {K : PySem.W.Frag} {mg : Str → Option Value} {base : Heap}
abbrev nBar : List Str := ["rows", "goals", "count", "wide", "leads", "row"]
theorem scBar : FnScope nBar ["rows", "goals"] (defScope (topS 27)) := ⟨rfl, rfl, rfl, by decide +kernel, rfl, by decide +kernel, by decide +kernel⟩
theorem d_bar (T : Tx P K mg base) : Def P w K mg base "bar" 45 ["rows", "goals"] (spSys K barF) := by
  obtain ⟨f, fd, hm, F⟩ := T.bar
  refine ⟨f, fd, hm, F.kp, F.binds (ps := ["rows", "goals"]) fun _ _ _ _ _ _ us hl => match us, hl with | [_, _], _ => rfl, F.ok scBar (fun vs H Q E h => ?_) (fun cdv A outer s H vs Q E hr h => ?_)⟩
  · obtain ⟨ax, ay, a, b, g, h, rfl, _⟩ := h
    rfl
  · obtain ⟨ax, ay, a, b, g, h, rfl, hs, kk⟩ := h
    obtain ⟨z0, mz, sz0⟩ := T.zero
    refine ⟨_, pss_cons (ps_set (i := 2) scBar.nd rfl (.inl rfl) (pe_callB call_len_seq (by rfl) T.bLen PySem.boot_len (pa_cons (pe_ix ix_tup (pv 0) pe_int fun _ _ => rfl) pa_nil)))
      (pss_cons (ps_asg (pe_def (d_reduced T) (hr.mono (by decide)) (pa_cons (pv 0) (pa_cons (pv 1) pa_nil))) (pg_tup rfl (pgs_cons (pg_name (i := 3) scBar.nd rfl (.inl rfl)) (pgs_cons (pg_name (i := 4) scBar.nd rfl (.inl rfl)) pgs_nil))))
      (pss_cons (ps_for PassesOwn.never rfl (pi_list (pe_slice sl_list (pv 3) (po_some (pe_callB call_len_seq (by rfl) T.bLen PySem.boot_len (pa_cons (pv 4) pa_nil))) po_none)) (pg_name (i := 5) scBar.nd rfl (.inl rfl))
        (pss_one (ps_if (pt_cmpR (op_neF (hr.mono (by decide))) (pe_ix ix_list (pv 5) (pv 2) fun _ _ => rfl) (pe_glob (v := .ref z0) rfl mz rfl) (nomark _))
          (pss_one (ps_ret (pe_callTy call_tuple_of (by rfl) T.bTuple PyProof.Rows.boot_tuple (pa_cons (pe_slice sl_list (pv 5) (po_some (pe_op op_add (pv 2) pe_int)) po_none) pa_nil)))) pss_nil)))
      (pss_one (ps_ret pe_non)))), ?_⟩
    obtain ⟨u0, u1, hS, ⟨ra, rvs, rfl, hA, fA⟩, hB⟩ := hs.rows
    have hn : rvs.length = a.length := fA.len
    refine ⟨_, rfl, ax, _, 0, _, rfl, rfl, hS, atI_zero, ra, _, rfl, .inr hA, ?_⟩
    rw [hn]
    refine ⟨_, rfl, _, rfl, ax, ay, _, _, a, b, g, h, rfl, hS, ⟨ra, rvs, rfl, hA, fA⟩, hB, hs.goals, hs.len, hs.len1, hs.len2, hs.sa, hs.sb, hs.sg, hs.sh, fun t wa la ps H1 hT I => ?_⟩
    refine ⟨t, _, rfl, hT, rfl, _, _, rfl, _, _, rfl, rfl, ?_⟩
    have o := elim_ok (S := 1202) (by decide) rfl hs.len hs.sa hs.sb hs.sg hs.sh a.length
    have esol : barF a b g h = (elim a b g h a.length).bar a.length := rfl
    rw [esol] at kk
    clear esol
    have hl2 := hs.len2
    generalize elim a b g h a.length = s at o I kk
    have top2 := El.lead_le o
    have rl : ∀ r ∈ [s.r0, s.r1], r.length = a.length + 3 := fun r hr => by
      rcases List.mem_cons.mp hr with e | hr
      · rw [e]; exact o.l0
      · rw [List.mem_singleton.mp hr]; exact o.l1
    have lps : ps.length = 2 := I.wl.len
    refine ⟨_, rfl, _, rfl, la, _, rfl, .inl (.of I.ld), _, rfl, wa, _, rfl, .of I.wl.at', fun p np => ?_⟩
    rw [List.length_map, cut_from, ← List.map_drop]
    have e1 : Same H1 (upd H1 p (.lst ((ps.drop s.leads.length).map V.ref))) := same_new np
    have I1 := I.same e1
    have hp1 : (upd H1 p (.lst ((ps.drop s.leads.length).map V.ref))) p = some (.lst ((ps.drop s.leads.length).map V.ref)) := upd_same
    generalize upd H1 p (.lst ((ps.drop s.leads.length).map V.ref)) = H2 at e1 I1 hp1 ⊢
    refine ⟨p, rfl, ⟨_, .of hp1⟩, ?_⟩
    have dl : (ps.drop s.leads.length).length = ([s.r0, s.r1].drop s.leads.length).length := by rw [List.length_drop, List.length_drop, I.wl.len]
    have kb : ∀ v H', Same H H' → OptT K H' v ((([s.r0, s.r1].drop s.leads.length).find? fun r => atR r a.length != 0).map fun r => r.drop (a.length + 1)) → Q v H' := kk
    refine for_it (walk_list (xs := (ps.drop s.leads.length).map V.ref)) (fun i σ H' => ∃ y, σ = [some (.ref ax), some (.ref ay), some (.int ((a.length : Nat) : Int)), some (.ref wa), some (.ref la), y] ∧ Same H2 H' ∧
      ∀ (j : Nat) (r : List Rat), j < i → ([s.r0, s.r1].drop s.leads.length)[j]? = some r → (atR r a.length != 0) = false) ⟨none, rfl, .refl _, fun j r hj => absurd hj (Nat.not_lt_zero j)⟩ (fun i σ H' _ ⟨_, _, e, _⟩ => e.seq (.of hp1)) ?_ ?_
    · rintro i x σ H3 H4 hi ⟨y, rfl, e3, hno⟩ ⟨rfl, hx⟩
      have W3 := I1.wl.same e3
      rw [List.length_map, List.length_drop] at hi
      obtain ⟨pi, hpi, _, Li, _⟩ := W3.get (k := s.leads.length + i) (by show _ < 2; omega)
      rw [List.getElem?_map, List.getElem?_drop, hpi] at hx
      have ex : V.ref pi = x := Option.some.inj hx
      subst ex
      obtain ⟨v, us, hpu, atv, fv⟩ := Li.get (c := a.length) (by rw [rowL_len rl (by show _ < 2; omega)]; omega)
      refine ⟨_, rfl, _, rfl, pi, us, _, v, rfl, rfl, .of hpu, atv, _, 0, fv, fr_zero sz0, ?_⟩
      have hri : ([s.r0, s.r1].drop s.leads.length)[i]? = some (rowL [s.r0, s.r1] (s.leads.length + i)) := by
        rw [List.getElem?_drop]
        exact rowL_at (by show _ < 2; omega)
      by_cases hz : atR (rowL [s.r0, s.r1] (s.leads.length + i)) a.length = 0
      · refine ⟨_, rfl, iteBF (b := !decide (atR (rowL [s.r0, s.r1] (s.leads.length + i)) a.length = 0)) (by rw [hz]; rfl) ?_⟩
        refine ⟨_, rfl, e3, fun j r hj hr => ?_⟩
        rcases Nat.lt_succ_iff_lt_or_eq.mp hj with hj | hj
        · exact hno j r hj hr
        · subst hj
          rw [hri] at hr
          rw [← Option.some.inj hr, hz]
          rfl
      · refine ⟨_, rfl, iteB (b := !decide (atR (rowL [s.r0, s.r1] (s.leads.length + i)) a.length = 0)) (by rw [decide_eq_false hz]; rfl) ?_⟩
        have ef : ([s.r0, s.r1].drop s.leads.length).find? (fun r => atR r a.length != 0) = some (rowL [s.r0, s.r1] (s.leads.length + i)) :=
          find_at hri (bne_iff_ne.mpr hz) hno
        rw [ef] at kb
        obtain ⟨us2, hpu2, fus⟩ := Li
        obtain rfl : us2 = us := HO.lst.inj (Option.some.inj (hpu2.symm.trans hpu))
        refine ⟨_, rfl, _, rfl, _, _, rfl, rfl, _, rfl, pi, us2, rfl, .of hpu, fun q nq => ?_⟩
        have ec : ((a.length : Nat) : Int) + 1 = ((a.length + 1 : Nat) : Int) := by omega
        rw [ec, cut_from]
        refine ⟨q, _, rfl, .inl ⟨.of upd_same, fun t2 nt2 => kb _ _ ((((I1.sm).trans e3).trans (same_new nq)).trans (same_new nt2)) ⟨t2, _, rfl, .of upd_same, ((fus.same (same_new nq)).same (same_new nt2)).drop _⟩⟩⟩
    · rintro σ H3 ⟨y, rfl, e3, hno⟩
      have en : ([s.r0, s.r1].drop s.leads.length).find? (fun r => atR r a.length != 0) = none := find_none fun j x hx => hno j x (by
        rw [List.length_map, dl]
        exact (List.getElem?_eq_some_iff.mp hx).1) hx
      rw [en] at kb
      exact kb _ _ (I1.sm.trans e3) rfl
end
end BR
end
section
set_option Elab.async false
set_option linter.all false
set_option maxRecDepth 100000
set_option maxHeartbeats 1000000
namespace BR
open PySem PySem.Spec PyProof.Rows L2
def spIsSol (K : PySem.W.Frag) : Sp := fun vs H Q _ => ∃ ax ay x a b g h xs, vs = [.ref ax, .ref ay, x] ∧ SysOk K H ax ay a b g h ∧ TupF K H x xs ∧ xs.length = a.length ∧ SzR 20000 xs ∧ dotP a xs = g ∧ dotP b xs = h ∧ ∀ H', Same H H' → Q (.bl true) H'
section
variable {P : Program} {w : World} {K : PySem.W.Frag} {mg : Str → Option Value} {base : Heap}
theorem mnums {K : PySem.W.Frag} {H : Hp} {ay : Addr} {g h : Rat} (t : TupF K H (.ref ay) [g, h]) : ∃ x0 x1, SqT K H ay [x0, x1] ∧ Fr K H x0 g ∧ Fr K H x1 h := by
  obtain ⟨a, vs, e, s, f⟩ := t
  cases e
  match vs, f.len with
  | [x0, x1], _ => exact ⟨x0, x1, s, f.at' 0 _ _ rfl rfl, f.at' 1 _ _ rfl rfl⟩
abbrev nIsSol : List Str := ["rows", "goals", "value", "row", "goal"]
theorem scIsSol : FnScope nIsSol ["rows", "goals", "value"] (defScope (topS 28)) := ⟨rfl, rfl, rfl, by decide +kernel, rfl, by decide +kernel, by decide +kernel⟩
theorem d_isSolution (T : Tx P K mg base) : Def P w K mg base "is_solution" 45 ["rows", "goals", "value"] (spIsSol K) := by
  obtain ⟨f, fd, hm, F⟩ := T.isSolution
  refine ⟨f, fd, hm, F.kp, F.binds (ps := ["rows", "goals", "value"]) fun _ _ _ _ _ _ us hl => match us, hl with | [_, _, _], _ => rfl, F.ok scIsSol (fun vs H Q E h => ?_) (fun cdv A outer s H vs Q E hr h => ?_)⟩
  · obtain ⟨ax, ay, x, a, b, g, h, xs, rfl, _⟩ := h
    rfl
  · obtain ⟨ax, ay, x, a, b, g, h, xs, rfl, hs, hx, hxl, sx, ea, eb, kk⟩ := h
    refine ⟨_, pss_cons (ps_if (PW.pt (pw_or (pt_not (pt_val (pe_def (d_areFractions T) (hr.mono (by decide)) (pa_cons (pv 2) pa_nil))))
          (pw_or1 (pt_cmpR op_ne (pe_callB call_len_seq (by rfl) T.bLen PySem.boot_len (pa_cons (pv 2) pa_nil)) (pe_callB call_len_seq (by rfl) T.bLen PySem.boot_len (pa_cons (pe_ix ix_tup (pv 0) pe_int fun _ _ => rfl) pa_nil)) (nomark _))))) (pss_one (ps_ret pe_bl)) pss_nil)
      (pss_one (ps_ret (pe_callB (cr_all rfl) (by rfl) T.bAll PyProof.Rows.boot_all (pa_cons
          (pe_lc (own := [("row", 3), ("goal", 4)]) (g := gPair K 3 4) (tt := tYes) (te := tOp (rEqF K) (tCall (spDot K) [] E0 (tCons (tVar 3) (tCons (tVar 2) tNil))) (tVar 4)) rfl scIsSol.nd (pi_zipS T.bZip (pa_cons (pv 0) (pa_cons (pv 1) pa_nil)))
            (blkOk_by (N := nIsSol) (sc := defScope (topS 28)) (by decide +kernel))
            (fun _ _ _ _ _ => pg_tup rfl (pgs_cons (pg_name (i := 3) scIsSol.nd rfl (.inl rfl)) (pgs_cons (pg_name (i := 4) scIsSol.nd rfl (.inl rfl)) pgs_nil))) (fun _ _ _ _ _ => pts_nil)
            (fun _ _ _ _ _ => pe_cmpR (op_eqF (hr.mono (by decide))) (pe_def (d_dot T) (hr.mono (by decide)) (pa_cons (pv 3) (pa_cons (pv 2) pa_nil))) (pv 4) (nomark _))) pa_nil)))), ?_⟩
    obtain ⟨u0, u1, hS, hA, hB⟩ := hs.rows
    obtain ⟨g0, g1, hG, fg, fh⟩ := mnums hs.goals
    obtain ⟨ra, rvs, rfl, hA2, fA⟩ := id hA
    obtain ⟨xa, xvs, rfl, hX, fX⟩ := id hx
    have hl2 := hs.len2
    refine ⟨_, rfl, _, xs, rfl, hx, by omega, fun H1 e1 => ?_⟩
    refine ⟨true, rfl, iteF ?_⟩
    refine ⟨_, rfl, xa, _, rfl, .inr (sqT_tk (.same e1) hX), _, rfl, ax, _, 0, _, rfl, rfl, sqT_tk (.same e1) hS, atI_zero, ra, _, rfl, .inr (sqT_tk (.same e1) hA2), rfl, _, rfl, iteBF (ndecF (by rw [fX.len, fA.len, hxl])) ?_⟩
    refine ⟨_, rfl, _, rfl, .t, .t, ax, ay, _, _, rfl, sqT_tk (.same e1) hS, sqT_tk (.same e1) hG, fun D nD => ?_⟩
    refine lc_gen (walk_zipS (xs := [.ref ra, u1]) (ys := [g0, g1]) rfl) (fun _ _ v => v = .bl true) nD (show 2 ≤ 100000 by decide) (fun H' e => ⟨sqT_tk (.same (e1.trans e)) hS, sqT_tk (.same (e1.trans e)) hG⟩) (fun _ _ _ _ _ r => r) ?_ ?_
    · rintro i v H2 H3 acc hi e2 hD ⟨t, r, y, rfl, nt, rfl, hr1, hy⟩ k hk
      have e3 : Same H2 (upd H2 t (.tup [r, y])) := same_new nt
      have eA := (e1.trans e2).trans e3
      refine ⟨t, _, rfl, .of upd_same, rfl, _, _, rfl, _, _, rfl, rfl, rfl, ?_⟩
      have go : ∀ (q : List Rat) (z : Rat), TupF K H r q → Fr K H y z → q.length = a.length → SzR 1202 q → dotP q xs = z → (tOp (rEqF K) (tCall (spDot K) [] E0 (tCons (tVar 3) (tCons (tVar 2) tNil))) (tVar 4)) [some (.ref ax), some (.ref ay), some (.ref xa), some r, some y] (upd H2 t (.tup [r, y])) k := by
        intro q z hq hz lq sq dq
        refine ⟨r, rfl, _, rfl, _, _, q, xs, 1202, 20000, rfl, (hq.same eA).seq, (hx.same eA).seq, by omega, by omega, sq, sx, by decide, fun v4 H4 e4 f4 => ?_⟩
        refine ⟨y, rfl, _, z, f4, (hz.same eA).same e4, hk _ _ (e3.trans e4) ?_⟩
        rw [dq, decide_eq_true rfl]
      match i, hr1, hy with
      | 0, hr1, hy =>
        cases Option.some.inj hr1
        cases Option.some.inj hy
        exact go a g hA fg rfl hs.sa ea
      | 1, hr1, hy =>
        cases Option.some.inj hr1
        cases Option.some.inj hy
        exact go b h hB fh hs.len hs.sb eb
      | i + 2, hr1, _ => simp at hr1
    · intro H2 ys e2 hD hl hR
      have hb := bls_true hR
      refine ⟨D, List.replicate ys.length true, rfl, .of (by rw [← hb]; exact hD), ?_⟩
      rw [all_true]
      exact kk H2 (e1.trans e2)
def spIsBar (K : PySem.W.Frag) : Sp := fun vs H Q _ => ∃ ax ay x a b g h y0 y1, vs = [.ref ax, .ref ay, x] ∧ SysOk K H ax ay a b g h ∧ TupF K H x [y0, y1] ∧ Sz 20000 y0 ∧ Sz 20000 y1 ∧ (∀ j, j < a.length → atR a j * y0 + atR b j * y1 = 0) ∧ g * y0 + h * y1 ≠ 0 ∧ ∀ H', Same H H' → Q (.bl true) H'
theorem SzR_two {n : Nat} {p q : Rat} (h : Sz n p) (k : Sz n q) : SzR n [p, q] := fun r hr => by
  rcases List.mem_cons.mp hr with e | hr
  · rw [e]; exact h
  · rw [List.mem_singleton.mp hr]; exact k
theorem dot_two (p q y0 y1 : Rat) : dotP [p, q] [y0, y1] = p * y0 + q * y1 := by
  show p * y0 + (q * y1 + 0) = _
  rw [Rat.add_zero]
theorem frs_two {K : PySem.W.Frag} {H : Hp} {x y : V} {p q : Rat} (a : Fr K H x p) (b : Fr K H y q) : Frs K H [x, y] [p, q] := .cons a (.cons b .nil)
theorem any_false_rep {α : Type} : ∀ L : List α, L.any (fun _ => false) = false
  | [] => rfl
  | _ :: L => any_false_rep L
theorem fr_at {K : PySem.W.Frag} {H : Hp} {v : V} {a : List Rat} {i : Nat} {hi : i < a.length} (f : Fr K H v a[i]) : Fr K H v (atR a i) := by
  unfold atR
  rw [← List.getElem_eq_getD (h := hi)]
  exact f
abbrev nIsBar : List Str := ["rows", "goals", "value", "k", "row"]
theorem scIsBar : FnScope nIsBar ["rows", "goals", "value"] (defScope (topS 29)) := ⟨rfl, rfl, rfl, by decide +kernel, rfl, by decide +kernel, by decide +kernel⟩
theorem d_isBar (T : Tx P K mg base) : Def P w K mg base "is_bar" 45 ["rows", "goals", "value"] (spIsBar K) := by
  obtain ⟨f, fd, hm, F⟩ := T.isBar
  refine ⟨f, fd, hm, F.kp, F.binds (ps := ["rows", "goals", "value"]) fun _ _ _ _ _ _ us hl => match us, hl with | [_, _, _], _ => rfl, F.ok scIsBar (fun vs H Q E h => ?_) (fun cdv A outer s H vs Q E hr h => ?_)⟩
  · obtain ⟨ax, ay, x, a, b, g, h, y0, y1, rfl, _⟩ := h
    rfl
  · obtain ⟨ax, ay, x, a, b, g, h, y0, y1, rfl, hs, hx, s0, s1, hz, hnz, kk⟩ := h
    obtain ⟨z0, mz, sz0⟩ := T.zero
    refine ⟨_, pss_cons (ps_if (PW.pt (pw_or (pt_not (pt_val (pe_def (d_areFractions T) (hr.mono (by decide)) (pa_cons (pv 2) pa_nil))))
          (pw_or1 (pt_cmpR op_ne (pe_callB call_len_seq (by rfl) T.bLen PySem.boot_len (pa_cons (pv 2) pa_nil)) (pe_callB call_len_seq (by rfl) T.bLen PySem.boot_len (pa_cons (pv 0) pa_nil)) (nomark _))))) (pss_one (ps_ret pe_bl)) pss_nil)
      (pss_cons (ps_if (pt_val (pe_callB (cr_any rfl) (by rfl) T.bAny PyProof.Rows.boot_any (pa_cons
          (pe_lc (own := [("k", 3)]) (g := gName 3) (tt := tYes)
            (te := tOp (rNeF K) (tCall (spDot K) [] E0 (tCons (tLc (iTup K (tVar 0)) (gName 4) tYes (tOp (rIxT K) (tVar 4) (tVar 3)) [4]) (tCons (tVar 2) tNil))) (tC (.ref z0))) rfl scIsBar.nd
            (pi_range1 rfl T.bRange (pa_cons (pe_callB call_len_seq (by rfl) T.bLen PySem.boot_len (pa_cons (pe_ix ix_tup (pv 0) pe_int fun _ _ => rfl) pa_nil)) pa_nil))
            (blkOk_by (N := nIsBar) (sc := defScope (topS 29)) (by decide +kernel))
            (fun _ _ _ _ _ => pg_name (i := 3) scIsBar.nd rfl (.inr rfl)) (fun _ _ _ _ _ => pts_nil)
            (fun _ _ _ _ _ => pe_cmpR (op_neF (hr.mono (by decide))) (pe_def (d_dot T) (hr.mono (by decide)) (pa_cons
                (pe_lc (own := [("row", 4)]) (g := gName 4) (tt := tYes) (te := tOp (rIxT K) (tVar 4) (tVar 3)) rfl scIsBar.nd (pi_tup (pv 0)) (blkOk_by (by rfl))
                  (fun _ _ _ _ _ => pg_name (i := 4) scIsBar.nd rfl (.inl rfl)) (fun _ _ _ _ _ => pts_nil)
                  (fun _ _ _ _ _ => pe_ix ix_tup (pv 4) (pv 3) fun _ _ => rfl)) (pa_cons (pv 2) pa_nil))) (pe_glob (v := .ref z0) rfl mz rfl) (nomark _))) pa_nil))) (pss_one (ps_ret pe_bl)) pss_nil)
      (pss_one (ps_ret (pe_cmpR (op_neF (hr.mono (by decide))) (pe_def (d_dot T) (hr.mono (by decide)) (pa_cons (pv 1) (pa_cons (pv 2) pa_nil))) (pe_glob (v := .ref z0) rfl mz rfl) (nomark _))))), ?_⟩
    obtain ⟨u0, u1, hS, hA, hB⟩ := hs.rows
    obtain ⟨g0, g1, hG, fg, fh⟩ := mnums hs.goals
    obtain ⟨ra, rvs, rfl, hA2, fA⟩ := id hA
    obtain ⟨rb, rws, rfl, hB2, fB⟩ := id hB
    obtain ⟨xa, xvs, rfl, hX, fX⟩ := id hx
    have hl2 := hs.len2
    refine ⟨_, rfl, _, [y0, y1], rfl, hx, by show 2 ≤ 1000; decide, fun H1 e1 => ?_⟩
    refine ⟨true, rfl, iteF ?_⟩
    refine ⟨_, rfl, xa, _, rfl, .inr (sqT_tk (.same e1) hX), _, rfl, ax, _, rfl, .inr (sqT_tk (.same e1) hS), rfl, _, rfl, iteBF (ndecF (by rw [fX.len]; rfl)) ?_⟩
    refine ⟨_, rfl, ax, _, 0, _, rfl, rfl, sqT_tk (.same e1) hS, atI_zero, ra, _, rfl, .inr (sqT_tk (.same e1) hA2), ?_⟩
    rw [fA.len]
    refine ⟨_, rfl, by omega, by omega, fun D nD => ?_⟩
    refine lc_gen (walk_rng0 (n := ((a.length : Nat) : Int).toNat)) (fun _ _ v => v = .bl false) nD (by rw [Int.toNat_natCast]; omega) (fun H' e => trivial) (fun _ _ _ _ _ r => r) ?_ ?_
    · rintro i v H2 H3 acc hi e2 hD ⟨rfl, rfl⟩ k hk
      rw [Int.toNat_natCast] at hi
      have eA := e1.trans e2
      obtain ⟨v0, h0, f0⟩ := fA.get (i := i) (List.getElem?_eq_getElem hi)
      obtain ⟨v1, h1, f1⟩ := fB.get (i := i) (List.getElem?_eq_getElem (hs.len ▸ hi))
      refine ⟨rfl, _, rfl, ax, rfl, ⟨_, sqT_tk (.same eA) hS⟩, fun D2 nD2 => ?_⟩
      refine lc_fr (K := K) (walk_tup (xs := [.ref ra, .ref rb])) [atR a i, atR b i] rfl nD2 (show 2 ≤ 100000 by decide) (fun H' e => sqT_tk (.same (eA.trans e)) hS) ?_ ?_
      · rintro j v H4 H5 q hq e4 ⟨rfl, hv⟩ k2 hk2
        match j, hq, hv with
        | 0, hq, hv =>
          cases Option.some.inj hv
          cases Option.some.inj hq
          exact ⟨rfl, _, rfl, _, rfl, ra, _, _, v0, rfl, rfl, sqT_tk (.same (eA.trans e4)) hA2, atI_nat h0, hk2 _ _ (.refl _) ((fr_at f0).same (eA.trans e4))⟩
        | 1, hq, hv =>
          cases Option.some.inj hv
          cases Option.some.inj hq
          exact ⟨rfl, _, rfl, _, rfl, rb, _, _, v1, rfl, rfl, sqT_tk (.same (eA.trans e4)) hB2, atI_nat h1, hk2 _ _ (.refl _) ((fr_at f1).same (eA.trans e4))⟩
        | j + 2, hq, _ => simp at hq
      · intro H4 e4 hL
        refine ⟨_, rfl, _, _, [atR a i, atR b i], [y0, y1], 1202, 20000, rfl, hL.seq, ((hx.same eA).same e4).seq, rfl, by show 2 ≤ 10; decide, SzR_two (hs.sa.at (by decide) i) (hs.sb.at (by decide) i), SzR_two s0 s1, by decide, fun v5 H5 e5 f5 => ?_⟩
        rw [dot_two, hz i hi] at f5
        refine ⟨0, 0, f5, fr_zero sz0, hk _ _ (e4.trans e5) ?_⟩
        rw [decide_eq_true rfl]
        rfl
    · intro H2 ys e2 hD hl hR
      have hb := bls_of (L := List.replicate ys.length ()) (f := fun _ => false) (by rw [List.length_replicate]) fun i v r hv _ => hR i v hv
      refine ⟨D, _, rfl, .of (by rw [← hb]; exact hD), ?_⟩
      rw [any_map]
      refine ⟨_, rfl, iteBF (any_false_rep _) ?_⟩
      have eA := e1.trans e2
      refine ⟨_, rfl, _, rfl, _, _, [g, h], [y0, y1], 1202, 20000, rfl, (hs.goals.same eA).seq, (hx.same eA).seq, rfl, by show 2 ≤ 10; decide, SzR_two hs.sg hs.sh, SzR_two s0 s1, by decide, fun v5 H5 e5 f5 => ?_⟩
      rw [dot_two] at f5
      refine ⟨_, 0, f5, fr_zero sz0, ?_⟩
      rw [decide_eq_false hnz]
      exact kk H5 (eA.trans e5)
end
end BR
end
section
set_option Elab.async false
set_option linter.all false
set_option maxRecDepth 100000
set_option maxHeartbeats 1000000
namespace BR
open PySem PySem.Spec PyProof.Rows L2
/-- a tuple of tuples of fractions -/
def RowsF (K : PySem.W.Frag) (H : Hp) (v : V) (L : List (List Rat)) : Prop := ∃ a vs, v = .ref a ∧ SqT K H a vs ∧ vs.length = L.length ∧ ∀ (i : Nat) (u : V) (r : List Rat), vs[i]? = some u → L[i]? = some r → TupF K H u r
theorem RowsF.same {K : PySem.W.Frag} {H H' : Hp} {v : V} {L : List (List Rat)} (e : Same H H') (h : RowsF K H v L) : RowsF K H' v L := by
  obtain ⟨a, vs, rfl, s, l, f⟩ := h
  exact ⟨a, vs, rfl, sqT_tk (.same e) s, l, fun i u r x y => (f i u r x y).same e⟩
theorem RowsF.tk {K : PySem.W.Frag} {H H' : Hp} {v : V} {L : List (List Rat)} (e : Tk H H') (h : RowsF K H v L) : RowsF K H' v L := by
  obtain ⟨a, vs, rfl, s, l, f⟩ := h
  exact ⟨a, vs, rfl, sqT_tk e s, l, fun i u r x y => (f i u r x y).tk e⟩
structure BookOk (v : Rat) (L : List (List Rat)) (ws : List Rat) : Prop where
  len : ws.length = L.length
  len1 : 1 ≤ L.length
  len2 : L.length ≤ 10
  ok : ∀ (i : Nat) (r : List Rat) (w : Rat), L[i]? = some r → ws[i]? = some w → RowOk r ∧ VW v w
def wsF (L : List (List Rat)) (ws : List Rat) (v : Rat) : List Rat := List.zipWith (fun r w => worthF r w v) L ws
def ssF (L : List (List Rat)) (ws : List Rat) (v : Rat) : List Rat := List.zipWith (fun r w => slopeF r w v) L ws
theorem zw_at {f : List Rat → Rat → Rat} {L : List (List Rat)} {ws : List Rat} {i : Nat} {q : Rat} (h : (List.zipWith f L ws)[i]? = some q) : ∃ r w, L[i]? = some r ∧ ws[i]? = some w ∧ q = f r w := by
  rw [List.getElem?_zipWith] at h
  cases e : L[i]? with
  | none => rw [e] at h; cases h
  | some r =>
    cases e2 : ws[i]? with
    | none => rw [e, e2] at h; cases h
    | some w =>
      rw [e, e2] at h
      exact ⟨r, w, rfl, rfl, (Option.some.inj h).symm⟩
theorem zw_len {f : List Rat → Rat → Rat} {L : List (List Rat)} {ws : List Rat} (h : ws.length = L.length) : (List.zipWith f L ws).length = L.length := by
  rw [List.length_zipWith, h, Nat.min_self]
theorem BookOk.sw {v : Rat} {L : List (List Rat)} {ws : List Rat} (b : BookOk v L ws) : SzR 1200 (wsF L ws v) := fun q hq => by
  obtain ⟨i, hi⟩ := List.mem_iff_getElem?.mp hq
  obtain ⟨r, w, h1, h2, rfl⟩ := zw_at hi
  obtain ⟨o, vw⟩ := b.ok i r w h1 h2
  exact (worth_sz vw o).mono (by decide)
theorem BookOk.ss {v : Rat} {L : List (List Rat)} {ws : List Rat} (b : BookOk v L ws) : SzR 1200 (ssF L ws v) := fun q hq => by
  obtain ⟨i, hi⟩ := List.mem_iff_getElem?.mp hq
  obtain ⟨r, w, h1, h2, rfl⟩ := zw_at hi
  obtain ⟨o, vw⟩ := b.ok i r w h1 h2
  exact slope_sz vw o
def spHedge (K : PySem.W.Frag) : Sp := fun vs H Q _ => ∃ x1 x2 x3 x4 x5 L ws v g h, vs = [x1, x2, x3, x4, x5] ∧ RowsF K H x1 L ∧ TupF K H x2 ws ∧ Fr K H x3 v ∧ Fr K H x4 g ∧ Fr K H x5 h ∧ BookOk v L ws ∧ Sz 1202 g ∧ Sz 1202 h ∧
  ∀ y H', Same H H' → OptT K H' y (solF (wsF L ws v) (ssF L ws v) g h) → Q y H'
section
variable {P : Program} {w : World} {K : PySem.W.Frag} {mg : Str → Option Value} {base : Heap}
abbrev nHedge : List Str := ["some", "rests", "v", "goal", "slope_goal", "worths", "slopes", "row", "rest"]
theorem scHedge : FnScope nHedge ["some", "rests", "v", "goal", "slope_goal"] (defScope (topS 30)) := ⟨rfl, rfl, rfl, by decide +kernel, rfl, by decide +kernel, by decide +kernel⟩
theorem d_hedge (T : Tx P K mg base) : Def P w K mg base "hedge" 46 ["some", "rests", "v", "goal", "slope_goal"] (spHedge K) := by
  obtain ⟨f, fd, hm, F⟩ := T.hedge
  refine ⟨f, fd, hm, F.kp, F.binds (ps := ["some", "rests", "v", "goal", "slope_goal"]) fun _ _ _ _ _ _ us hl => match us, hl with | [_, _, _, _, _], _ => rfl, F.ok scHedge (fun vs H Q E h => ?_) (fun cdv A outer s H vs Q E hr h => ?_)⟩
  · obtain ⟨x1, x2, x3, x4, x5, L, ws, v, g, h, rfl, _⟩ := h
    rfl
  · obtain ⟨x1, x2, x3, x4, x5, L, ws, v, g, h, rfl, h1, h2, h3, h4, h5, bk, sg, sh, kk⟩ := h
    refine ⟨_, pss_cons (ps_set (i := 5) scHedge.nd rfl (.inl rfl) (pe_callTy call_tuple_of (by rfl) T.bTuple PyProof.Rows.boot_tuple (pa_cons
        (pe_lc (own := [("row", 7), ("rest", 8)]) (g := gPair K 7 8) (tt := tYes) (te := tCall (spWorth K worthF) [] E0 (tCons (tVar 7) (tCons (tVar 8) (tCons (tVar 2) tNil)))) rfl scHedge.nd (pi_zipS T.bZip (pa_cons (pv 0) (pa_cons (pv 1) pa_nil)))
            (blkOk_by (N := nHedge) (sc := defScope (topS 30)) (by decide +kernel))
            (fun _ _ _ _ _ => pg_tup rfl (pgs_cons (pg_name (i := 7) scHedge.nd rfl (.inl rfl)) (pgs_cons (pg_name (i := 8) scHedge.nd rfl (.inl rfl)) pgs_nil))) (fun _ _ _ _ _ => pts_nil)
            (fun _ _ _ _ _ => pe_def (d_worth T) (hr.mono (by decide)) (pa_cons (pv 7) (pa_cons (pv 8) (pa_cons (pv 2) pa_nil))))) pa_nil)))
      (pss_cons (ps_set (i := 6) scHedge.nd rfl (.inl rfl) (pe_callTy call_tuple_of (by rfl) T.bTuple PyProof.Rows.boot_tuple (pa_cons
        (pe_lc (own := [("row", 7), ("rest", 8)]) (g := gPair K 7 8) (tt := tYes) (te := tCall (spWorth K slopeF) [] E0 (tCons (tVar 7) (tCons (tVar 8) (tCons (tVar 2) tNil)))) rfl scHedge.nd (pi_zipS T.bZip (pa_cons (pv 0) (pa_cons (pv 1) pa_nil)))
            (blkOk_by (N := nHedge) (sc := defScope (topS 30)) (by decide +kernel))
            (fun _ _ _ _ _ => pg_tup rfl (pgs_cons (pg_name (i := 7) scHedge.nd rfl (.inl rfl)) (pgs_cons (pg_name (i := 8) scHedge.nd rfl (.inl rfl)) pgs_nil))) (fun _ _ _ _ _ => pts_nil)
            (fun _ _ _ _ _ => pe_def (d_slope T) (hr.mono (by decide)) (pa_cons (pv 7) (pa_cons (pv 8) (pa_cons (pv 2) pa_nil))))) pa_nil)))
      (pss_one (ps_ret (pe_def (d_solution T) (hr.mono (by decide)) (pa_cons (pe_tup (pa_cons (pv 5) (pa_cons (pv 6) pa_nil))) (pa_cons (pe_tup (pa_cons (pv 3) (pa_cons (pv 4) pa_nil))) pa_nil)))))), ?_⟩
    obtain ⟨as, avs, rfl, hS, al, af⟩ := id h1
    obtain ⟨ar, rvs, rfl, hR, rf⟩ := id h2
    have len2 := bk.len2
    have bl := bk.len
    have rl := rf.len
    -- a column of rows
    have col : ∀ {fn : List Rat → Rat → Rat → Rat} {H1 : Hp} {D : Addr} {y6 : Option V} {y7 : Option V} {Qd : Hp → Prop} (e1 : Same H H1) (nD : H1 D = none)
        (hd : ∀ H2, Same H1 H2 → LstF K H2 D (List.zipWith (fun r w => fn r w v) L ws) → Qd H2) {σ : L2.St} (hσ : ∃ y8 y9, σ = [some (.ref as), some (.ref ar), some x3, some x4, some x5, y6, y7, y8, y9]),
        ∃ W : Nat → Nat → Hp → Prop, (∃ m, W 0 m (upd H1 D (.lst []))) ∧ ∀ i m H, W i m H →
          ((ItzS K .t .t as ar).stop i H ∧ Qd H) ∨ ((ItzS K .t .t as ar).go i H ∧ ∃ Nx : Hp → Prop, (∀ H', Nx H' → ∃ m', m' < m ∧ W (i + 1) m' H') ∧ ∀ x H', (ItzS K .t .t as ar).yld i H x H' → gPair K 7 8 x (wipe σ [7, 8]) H' fun σ2 H2 => wipe σ2 [7, 8] = wipe σ [7, 8] ∧ tYes σ2 H2 fun b H3 =>
            if b = true then (tCall (spWorth K fn) [] E0 (tCons (tVar 7) (tCons (tVar 8) (tCons (tVar 2) tNil)))) σ2 H3 fun y H4 => ∃ acc, H4 D = some (.lst acc) ∧ acc.length < sizeLine ∧ Nx (upd H4 D (.lst (acc ++ [y]))) else Nx H3) := by
      intro fn H1 D y6 y7 Qd e1 nD hd σ ⟨y8, y9, hσ⟩
      subst hσ
      refine lc_fr (K := K) (walk_zipS (xs := avs) (ys := rvs) (by omega)) (List.zipWith (fun r w => fn r w v) L ws) (by rw [zw_len bl, al]) nD (by omega) (fun H' e => ⟨sqT_tk (.same (e1.trans e)) hS, sqT_tk (.same (e1.trans e)) hR⟩) ?_ hd
      rintro i v4 H2 H3 q hq e2 ⟨t, x, y, rfl, nt, rfl, hx, hy⟩ k hk
      obtain ⟨r, w', hr1, hw1, rfl⟩ := zw_at hq
      obtain ⟨o, vw⟩ := bk.ok i r w' hr1 hw1
      have e3 : Same H2 (upd H2 t (.tup [x, y])) := same_new nt
      have eA := (e1.trans e2).trans e3
      refine ⟨t, _, rfl, .of upd_same, rfl, _, _, rfl, _, _, rfl, rfl, rfl, ?_⟩
      exact ⟨x, rfl, y, rfl, x3, rfl, _, _, _, r, w', v, rfl, (af i x r hx hr1).same eA, (rf.at' i y w' hy hw1).same eA, h3.same eA, o, vw, fun y5 H5 e5 f5 => hk _ _ (e3.trans e5) f5⟩
    refine ⟨_, rfl, _, rfl, .t, .t, as, ar, avs, rvs, rfl, hS, hR, fun D nD => ?_⟩
    refine col (.refl _) nD (fun H1 e1 hL => ?_) ⟨_, _, rfl⟩
    obtain ⟨wvs, hD, hw⟩ := hL
    refine ⟨D, wvs, rfl, .inl ⟨.of hD, fun ta na => ?_⟩⟩
    have e2 := e1.trans (same_new (o := .tup wvs) na)
    have hA : TupF K (upd H1 ta (.tup wvs)) (.ref ta) (wsF L ws v) := ⟨ta, wvs, rfl, .of upd_same, hw.same (same_new na)⟩
    generalize upd H1 ta (.tup wvs) = H2 at e2 hA ⊢
    refine ⟨_, rfl, _, rfl, .t, .t, as, ar, avs, rvs, rfl, sqT_tk (.same e2) hS, sqT_tk (.same e2) hR, fun D2 nD2 => ?_⟩
    refine col e2 nD2 (fun H3 e3 hL => ?_) ⟨_, _, rfl⟩
    obtain ⟨svs, hD2, hsv⟩ := hL
    refine ⟨D2, svs, rfl, .inl ⟨.of hD2, fun tb nb => ?_⟩⟩
    have e4 := (same_new (o := .tup svs) nb)
    have hB : TupF K (upd H3 tb (.tup svs)) (.ref tb) (ssF L ws v) := ⟨tb, svs, rfl, .of upd_same, hsv.same (same_new nb)⟩
    generalize upd H3 tb (.tup svs) = H4 at e4 hB ⊢
    refine ⟨_, rfl, _, rfl, by show 2 ≤ sizeLine; decide, fun p np => ?_⟩
    have e5 : Same H4 (upd H4 p (.tup [.ref ta, .ref tb])) := same_new np
    refine ⟨_, rfl, _, rfl, by show 2 ≤ sizeLine; decide, fun q nq => ?_⟩
    have e6 : Same (upd H4 p (.tup [.ref ta, .ref tb])) (upd (upd H4 p (.tup [.ref ta, .ref tb])) q (.tup [x4, x5])) := same_new nq
    have e24 := e3.trans e4
    have eA := ((e2.trans e24).trans e5).trans e6
    have lw : (wsF L ws v).length = L.length := zw_len bl
    have ls : (ssF L ws v).length = L.length := zw_len bl
    have len1 := bk.len1
    refine ⟨p, q, wsF L ws v, ssF L ws v, g, h, rfl, ⟨⟨_, _, .of (e6 _ _ upd_same), (hA.same ((e24.trans e5).trans e6)), hB.same (e5.trans e6)⟩, ⟨q, _, rfl, .of upd_same, frs_two (h4.same eA) (h5.same eA)⟩, by omega, by omega, by omega, fun r hr => (bk.sw r hr).mono (by decide), fun r hr => (bk.ss r hr).mono (by decide), sg, sh⟩, fun y H7 e7 o7 => kk y H7 (eA.trans e7) o7⟩
end
end BR
end
section
set_option Elab.async false
set_option linter.all false
set_option maxRecDepth 100000
set_option maxHeartbeats 1000000
namespace BR
open PySem PySem.Spec PyProof.Rows L2
/-- the law's pen: a list of the cells, the place, what is held -/
def Pen (H : Hp) (pen ca : Addr) (B : Nat) : Prop := ∃ (n : Nat) (held : Int) (cs : List Int), H pen = some (.lst [.ref ca, .int (n : Nat), .int held]) ∧ H ca = some (.lst (cs.map V.int)) ∧ cs.length ≤ 12 ∧ n ≤ B ∧ ca ≠ pen
theorem Pen.same {H H' : Hp} {pen ca : Addr} {B : Nat} (e : Same H H') (h : Pen H pen ca B) : Pen H' pen ca B := by
  obtain ⟨n, held, cs, a, b, c, d, f⟩ := h
  exact ⟨n, held, cs, e _ _ a, e _ _ b, c, d, f⟩
theorem Pen.mono {H : Hp} {pen ca : Addr} {B C : Nat} (h : Pen H pen ca B) (hb : B ≤ C) : Pen H pen ca C := by
  obtain ⟨n, held, cs, a, b, c, d, f⟩ := h
  exact ⟨n, held, cs, a, b, c, Nat.le_trans d hb, f⟩
theorem Bt.trans {D : Addr} {H H1 H2 : Hp} (a : Bt D H H1) (b : Bt D H1 H2) : Bt D H H2 := ⟨a.tk.trans b.tk, fun x o hx e => b.but x o hx (a.but x o hx e)⟩
theorem Bt.refl (D : Addr) (H : Hp) : Bt D H H := ⟨.refl _, fun _ _ _ e => e⟩
def PLs : List Int := [2147483629, 2147483587, 2147483579, 2147483563, 2147483549, 2147483543, 2147483497, 2147483489, 2147483477, 2147483423, 2147483399, 2147483353, 2147483323]
theorem mod_nat (k : Int) {n : Nat} (h : 0 < n) : ∃ m : Nat, k % (n : Int) = (m : Int) ∧ m < n := by
  have h1 := Int.emod_nonneg k (b := (n : Int)) (by omega)
  have h2 := Int.emod_lt_of_pos k (b := (n : Int)) (by omega)
  exact ⟨(k % (n : Int)).toNat, by omega, by omega⟩
theorem prime_at (k : Int) : ∃ p : Int, atI (PLs.map V.int) (k % 13) = some (.int p) ∧ 0 < p ∧ p < 2 ^ 31 := by
  obtain ⟨m, e, hm⟩ := mod_nat k (n := 13) (by decide)
  have e : k % 13 = (m : Int) := e
  have all : ∀ m : Fin 13, ∃ p, PLs[m.val]? = some p ∧ 0 < p ∧ p < 2 ^ 31 := fun m => ⟨PLs[m.val]'m.isLt, List.getElem?_eq_getElem m.isLt, by revert m; decide +kernel, by revert m; decide +kernel⟩
  obtain ⟨p, h1, h2, h3⟩ := all ⟨m, hm⟩
  refine ⟨p, ?_, h2, h3⟩
  rw [e]
  exact atI_nat (by rw [List.getElem?_map, h1]; rfl)
theorem pow64 {x : Int} (h0 : 0 ≤ x) (h : x < 2 ^ 63) : x.natAbs < 2 ^ 64 := by omega
theorem small_mul {x y : Int} (h0 : 0 ≤ x) (h : x < 2 ^ 63) : CMul x y := .inl ⟨by omega, by omega⟩
theorem mul_bd {x y A C : Int} (x0 : 0 ≤ x) (x1 : x ≤ A) (y0 : 0 ≤ y) (y1 : y ≤ C) : 0 ≤ x * y ∧ x * y ≤ A * C :=
  ⟨Int.mul_nonneg x0 y0, Int.mul_le_mul x1 y1 y0 (Int.le_trans x0 x1)⟩
def spSpread : Sp := fun vs H Q _ => ∃ (c : Int) (n : Nat), vs = [.int c, .int (n : Nat)] ∧ n ≤ 5000 ∧ ∀ r H', Same H H' → Q (.int r) H'
def spTake : Sp := fun vs H Q _ => ∃ (pen ca : Addr) (n : Int) (B : Nat), vs = [.ref pen, .int n] ∧ Pen H pen ca B ∧ B ≤ 4000 ∧ 0 < n ∧ n < 2 ^ 60 ∧ ∀ r H', Bt pen H H' → Pen H' pen ca (B + 1) → 0 ≤ r → r < n → Q (.int r) H'
section
variable {P : Program} {w : World} {K : PySem.W.Frag} {mg : Str → Option Value} {base : Heap}
abbrev nSpread : List Str := ["_law_cell", "_law_at", "_law_primes", "_law_one", "_law_two", "_law_three"]
theorem scSpread : FnScope nSpread ["_law_cell", "_law_at"] (defScope (topS 33)) := ⟨rfl, rfl, rfl, by decide +kernel, rfl, by decide +kernel, by decide +kernel⟩
theorem d_spread (T : Tx P K mg base) : Def P w K mg base "_law_spread" 1 ["_law_cell", "_law_at"] spSpread := by
  obtain ⟨f, fd, hm, F⟩ := T.lSpread
  refine ⟨f, fd, hm, F.kp, F.binds (ps := ["_law_cell", "_law_at"]) fun _ _ _ _ _ _ us hl => match us, hl with | [_, _], _ => rfl, F.ok scSpread (fun vs H Q E h => ?_) (fun cdv A outer s H vs Q E hr h => ?_)⟩
  · obtain ⟨c, n, rfl, _⟩ := h
    rfl
  · obtain ⟨c, n, rfl, hn, kk⟩ := h
    refine ⟨_, pss_cons (ps_if (pt_cmpR op_ge (pv 0) (pe_op op_pow pe_int pe_int) (nomark _)) (pss_one (ps_ret (pv 0))) pss_nil)
      (pss_cons (ps_set (i := 2) scSpread.nd rfl (.inl rfl) (pe_lst (pa_cons pe_int (pa_cons pe_int (pa_cons pe_int (pa_cons pe_int (pa_cons pe_int (pa_cons pe_int (pa_cons pe_int (pa_cons pe_int pa_nil))))))))))
      (pss_cons (ps_set (i := 2) scSpread.nd rfl (.inl rfl) (pe_op op_cat (pv 2) (pe_lst (pa_cons pe_int (pa_cons pe_int (pa_cons pe_int (pa_cons pe_int (pa_cons pe_int pa_nil))))))))
      (pss_cons (ps_set (i := 3) scSpread.nd rfl (.inl rfl) (pe_op op_mod (pe_op op_pow (pe_op op_add (pe_op op_add (pe_op op_mul (pe_op op_mod (pv 0) pe_int) (pe_op op_add (pe_op op_mul pe_int (pv 1)) pe_int)) (pe_op op_mul (pv 1) pe_int)) pe_int) pe_int)
          (pe_ix ix_list (pv 2) (pe_op op_mod (pv 1) pe_int) fun _ _ => rfl)))
      (pss_cons (ps_set (i := 4) scSpread.nd rfl (.inl rfl) (pe_op op_mod (pe_op op_pow (pe_op op_add (pe_op op_add (pe_op op_mul (pv 3) (pe_op op_add (pv 1) pe_int)) (pe_op op_mod (pv 0) pe_int)) pe_int) pe_int)
          (pe_ix ix_list (pv 2) (pe_op op_mod (pe_op op_add (pv 1) pe_int) pe_int) fun _ _ => rfl)))
      (pss_cons (ps_set (i := 5) scSpread.nd rfl (.inl rfl) (pe_op op_mod (pe_op op_pow (pe_op op_add (pe_op op_add (pv 4) (pe_op op_mod (pv 3) pe_int)) (pv 1)) pe_int)
          (pe_ix ix_list (pv 2) (pe_op op_mod (pe_op op_add (pv 1) pe_int) pe_int) fun _ _ => rfl)))
      (pss_one (ps_ret (pe_op op_add (pe_op op_mul (pe_op op_add (pe_op op_mul (pv 3) pe_int) (pv 4)) pe_int) (pv 5))))))))), ?_⟩
    refine ⟨_, rfl, _, _, rfl, rfl, ⟨by decide, by decide, by decide⟩, _, _, rfl, rfl, _, rfl, ?_⟩
    by_cases hc : (10 : Int) ^ (18 : Int).toNat ≤ c
    · exact iteB (decide_eq_true hc) ⟨_, rfl, kk c H (.refl _)⟩
    refine iteBF (decide_eq_false hc) ⟨by show 8 ≤ sizeLine; decide, fun l1 n1 => ?_⟩
    refine ⟨_, rfl, by show 5 ≤ sizeLine; decide, fun l2 n2 => ⟨l1, l2, _, _, rfl, rfl, (same_new n2) _ _ upd_same, upd_same, by show 13 ≤ sizeLine; decide, fun l3 n3 => ?_⟩⟩
    have e1 : Same H (upd H l1 (.lst [.int 2147483629, .int 2147483587, .int 2147483579, .int 2147483563, .int 2147483549, .int 2147483543, .int 2147483497, .int 2147483489])) := same_new n1
    have e2 := e1.trans ((same_new (o := .lst [.int 2147483477, .int 2147483423, .int 2147483399, .int 2147483353, .int 2147483323]) n2).trans (same_new (o := .lst (PLs.map V.int)) n3))
    have hl : ∀ H0 : Hp, (upd H0 l3 (.lst (PLs.map V.int))) l3 = some (.lst (PLs.map V.int)) := fun _ => upd_same
    have hl3 := hl (upd (upd H l1 (.lst [.int 2147483629, .int 2147483587, .int 2147483579, .int 2147483563, .int 2147483549, .int 2147483543, .int 2147483497, .int 2147483489])) l2 (.lst [.int 2147483477, .int 2147483423, .int 2147483399, .int 2147483353, .int 2147483323]))
    revert e2 hl3
    generalize hH3 : upd (upd (upd H l1 (.lst [.int 2147483629, .int 2147483587, .int 2147483579, .int 2147483563, .int 2147483549, .int 2147483543, .int 2147483497, .int 2147483489])) l2 (.lst [.int 2147483477, .int 2147483423, .int 2147483399, .int 2147483353, .int 2147483323])) l3 (.lst (PLs.map V.int)) = H3
    intro e2 hl3
    rw [show ([V.int 2147483629, .int 2147483587, .int 2147483579, .int 2147483563, .int 2147483549, .int 2147483543, .int 2147483497, .int 2147483489] ++ [V.int 2147483477, .int 2147483423, .int 2147483399, .int 2147483353, .int 2147483323]) = PLs.map V.int from rfl, hH3]
    obtain ⟨p1, a1, b1, c1⟩ := prime_at (n : Int)
    obtain ⟨p2, a2, b2, c2⟩ := prime_at ((n : Int) + 5)
    obtain ⟨p3, a3, b3, c3⟩ := prime_at ((n : Int) + 7)
    have x0 := Int.emod_nonneg c (b := 1000000007) (by decide)
    have x1 := Int.emod_lt_of_pos c (b := 1000000007) (by decide)
    have x2 := Int.emod_nonneg c (b := 65537) (by decide)
    have x3 := Int.emod_lt_of_pos c (b := 65537) (by decide)
    have m1 := mul_bd x0 (Int.le_of_lt x1) (show (0 : Int) ≤ 2 * (n : Int) + 69069 by omega) (show 2 * (n : Int) + 69069 ≤ 80000 by omega)
    have m2 := mul_bd (show (0 : Int) ≤ (n : Int) by omega) (show (n : Int) ≤ 5000 by omega) (show (0 : Int) ≤ 40503 by decide) (Int.le_refl 40503)
    refine ⟨_, rfl, _, _, rfl, rfl, (show (0 : Int) < 1000000007 by decide), _, rfl, _, _, rfl, rfl, small_mul (by decide) (by decide), _, _, rfl, rfl, _, _, rfl, rfl, small_mul x0 (by omega), _, rfl, _, _, rfl, rfl, small_mul (by omega) (by omega), _, _, rfl, rfl, _, _, rfl, rfl, _, _, rfl, rfl,
      ⟨by decide, by decide, pow64 (by omega) (by omega)⟩, _, rfl, _, rfl, _, _, rfl, rfl, (show (0 : Int) < 13 by decide), l3, _, _, _, rfl, rfl, .of hl3, a1, _, _, rfl, rfl, b1, ?_⟩
    dsimp only
    generalize (c % 1000000007 * (2 * (n : Int) + 69069) + (n : Int) * 40503 + 977) ^ (3 : Int).toNat = z1
    have y0 := Int.emod_nonneg z1 (b := p1) (by omega)
    have y1 := Int.emod_lt_of_pos z1 b1
    generalize z1 % p1 = one at y0 y1 ⊢
    have m3 := mul_bd y0 (show one ≤ 2 ^ 31 by omega) (show (0 : Int) ≤ (n : Int) + 3 by omega) (show (n : Int) + 3 ≤ 8192 by omega)
    refine ⟨_, rfl, _, rfl, _, _, rfl, rfl, _, _, rfl, rfl, small_mul y0 (by omega), _, rfl, _, _, rfl, rfl, (show (0 : Int) < 65537 by decide), _, _, rfl, rfl, _, _, rfl, rfl, _, _, rfl, rfl, ⟨by decide, by decide, pow64 (by omega) (by omega)⟩,
      _, rfl, _, rfl, _, _, rfl, rfl, _, _, rfl, rfl, (show (0 : Int) < 13 by decide), l3, _, _, _, rfl, rfl, .of hl3, a2, _, _, rfl, rfl, b2, ?_⟩
    dsimp only
    generalize (one * ((n : Int) + 3) + c % 65537 + 5) ^ (5 : Int).toNat = z2
    have w0 := Int.emod_nonneg z2 (b := p2) (by omega)
    have w1 := Int.emod_lt_of_pos z2 b2
    generalize z2 % p2 = two at w0 w1 ⊢
    have v0 := Int.emod_nonneg one (b := 1009) (by decide)
    have v1 := Int.emod_lt_of_pos one (b := 1009) (by decide)
    refine ⟨_, rfl, _, rfl, _, _, rfl, rfl, (show (0 : Int) < 1009 by decide), _, _, rfl, rfl, _, rfl, _, _, rfl, rfl, _, _, rfl, rfl, ⟨by decide, by decide, pow64 (by omega) (by omega)⟩,
      _, rfl, _, rfl, _, _, rfl, rfl, _, _, rfl, rfl, (show (0 : Int) < 13 by decide), l3, _, _, _, rfl, rfl, .of hl3, a3, _, _, rfl, rfl, b3, ?_⟩
    refine ⟨_, rfl, _, _, rfl, rfl, small_mul y0 (by omega), _, rfl, _, _, rfl, rfl, _, _, rfl, rfl, .inr ⟨by decide, by decide⟩, _, rfl, _, _, rfl, rfl, kk _ H3 e2⟩
end
end BR
end
section
set_option Elab.async false
set_option linter.all false
set_option maxRecDepth 100000
set_option maxHeartbeats 1000000
namespace BR
open PySem PySem.Spec PyProof.Rows L2
section
variable {P : Program} {w : World} {K : PySem.W.Frag} {mg : Str → Option Value} {base : Heap}
abbrev nTake : List Str := ["_law_pen", "_law_amount", "_law_at", "_law_cell", "_law_found"]
theorem scTake : FnScope nTake ["_law_pen", "_law_amount"] (defScope (topS 34)) := ⟨rfl, rfl, rfl, by decide +kernel, rfl, by decide +kernel, by decide +kernel⟩
theorem d_take (T : Tx P K mg base) : Def P w K mg base "_law_take" 2 ["_law_pen", "_law_amount"] (spTake) := by
  obtain ⟨f, fd, hm, F⟩ := T.lTake
  refine ⟨f, fd, hm, F.kp, F.binds (ps := ["_law_pen", "_law_amount"]) fun _ _ _ _ _ _ us hl => match us, hl with | [_, _], _ => rfl, F.ok scTake (fun vs H Q E h => ?_) (fun cdv A outer s H vs Q E hr h => ?_)⟩
  · obtain ⟨pen, ca, n, B, rfl, _⟩ := h
    rfl
  · obtain ⟨pen, ca, n, B, rfl, hp, hB, n0, n1, kk⟩ := h
    refine ⟨_, pss_cons (ps_if (pt_cmpR op_lt (pe_ix ix_list (pv 0) pe_int fun _ _ => rfl) (pv 1) (nomark _))
        (pss_cons (ps_set (i := 2) scTake.nd rfl (.inl rfl) (pe_ix ix_list (pv 0) pe_int fun _ _ => rfl))
        (pss_cons (ps_set (i := 3) scTake.nd rfl (.inl rfl) pe_int)
        (pss_cons (ps_if (pt_cmpR op_lt (pv 2) (pe_callB call_len_seq (by rfl) T.bLen PySem.boot_len (pa_cons (pe_ix ix_list (pv 0) pe_int fun _ _ => rfl) pa_nil)) (nomark _))
            (pss_one (ps_set (i := 3) scTake.nd rfl (.inl rfl) (pe_ix ix_list (pe_ix ix_list (pv 0) pe_int fun _ _ => rfl) (pv 2) fun _ _ => rfl)))
            (pss_one (ps_if (pt_cmpR op_gt (pe_callB call_len_seq (by rfl) T.bLen PySem.boot_len (pa_cons (pe_ix ix_list (pv 0) pe_int fun _ _ => rfl) pa_nil)) pe_int (nomark _))
              (pss_one (ps_set (i := 3) scTake.nd rfl (.inl rfl) (pe_op op_mod (pe_ix ix_list (pe_ix ix_list (pv 0) pe_int fun _ _ => rfl)
                (pe_op op_mod (pe_op op_add (pe_op op_mul (pv 2) pe_int) pe_int) (pe_callB call_len_seq (by rfl) T.bLen PySem.boot_len (pa_cons (pe_ix ix_list (pv 0) pe_int fun _ _ => rfl) pa_nil))) fun _ _ => rfl)
                (pe_op op_add (pe_op op_pow pe_int pe_int) (pv 2))))) pss_nil)))
        (pss_cons (ps_asg (pe_op op_add (pv 2) pe_int) (pg_sub (pv 0) pe_int set_list))
        (pss_one (ps_asg (pe_def (d_spread T) (hr.mono (by decide)) (pa_cons (pv 3) (pa_cons (pv 2) pa_nil))) (pg_sub (pv 0) pe_int set_list)))))))
        pss_nil)
      (pss_cons (ps_set (i := 4) scTake.nd rfl (.inl rfl) (pe_op op_mod (pe_ix ix_list (pv 0) pe_int fun _ _ => rfl) (pv 1)))
      (pss_cons (ps_asg (pe_op op_fdivW (pe_ix ix_list (pv 0) pe_int fun _ _ => rfl) (pv 1)) (pg_sub (pv 0) pe_int set_list))
      (pss_one (ps_ret (pv 4))))), ?_⟩
    obtain ⟨k, held, cs, hpen, hca, hl, hk, hne⟩ := hp
    have dv : CDivW held n := wide_div n0 (b := 60) (by omega) (by decide) (by decide)
    have m0 := Int.emod_nonneg held (b := n) (by omega)
    have m1 := Int.emod_lt_of_pos held n0
    refine ⟨_, rfl, pen, _, 2, _, rfl, rfl, .of hpen, rfl, _, rfl, held, n, rfl, rfl, _, rfl, ?_⟩
    by_cases hh : held < n
    · refine iteB (decide_eq_true hh) ⟨_, rfl, pen, _, 1, _, rfl, rfl, .of hpen, rfl, ?_⟩
      refine ⟨_, rfl, _, rfl, pen, _, 0, _, rfl, rfl, .of hpen, rfl, ca, _, rfl, .inl (.of hca), _, _, rfl, rfl, _, rfl, ?_⟩
      have ec : (List.map V.int cs).length = cs.length := List.length_map ..
      have kk2 : k ≤ 5000 := by omega
      have fin : ∀ (r : Int) (H1 : Hp), Same (upd H pen (.lst [V.ref ca, V.int ((k : Nat) + 1 : Int), V.int held])) H1 → Bt pen H (upd (upd H1 pen (.lst [V.ref ca, V.int ((k : Nat) + 1 : Int), V.int r])) pen (.lst [V.ref ca, V.int ((k : Nat) + 1 : Int), V.int (r / n)])) ∧
          Pen (upd (upd H1 pen (.lst [V.ref ca, V.int ((k : Nat) + 1 : Int), V.int r])) pen (.lst [V.ref ca, V.int ((k : Nat) + 1 : Int), V.int (r / n)])) pen ca (B + 1) := by
        intro r H1 e1
        have p1 := e1 _ _ upd_same
        refine ⟨((Bt.put hpen).trans (.same e1)).trans ((Bt.put p1).trans (.put upd_same)), k + 1, _, cs, upd_same, ?_, hl, by omega, hne⟩
        rw [upd_ne hne, upd_ne hne]
        exact e1 _ _ (by rw [upd_ne hne]; exact hca)
      by_cases h1 : k < cs.length
      · refine iteB (decide_eq_true (by rw [ec]; omega)) ⟨_, rfl, pen, _, 0, _, rfl, rfl, .of hpen, rfl, _, rfl, ca, _, _, .int cs[k], rfl, rfl, .of hca, atI_nat (by rw [List.getElem?_map, List.getElem?_eq_getElem h1]; rfl), ?_⟩
        refine ⟨_, rfl, _, _, rfl, rfl, _, rfl, pen, _, 1, 1, rfl, rfl, hpen, rfl, _, rfl, _, rfl, _, k, rfl, kk2, fun r H1 e1 => ⟨_, rfl, pen, _, 2, 2, rfl, rfl, e1 _ _ upd_same, rfl, ?_⟩⟩
        have q0 := Int.emod_nonneg r (b := n) (by omega)
        have q1 := Int.emod_lt_of_pos r n0
        refine ⟨_, rfl, pen, _, 2, _, rfl, rfl, .of upd_same, rfl, _, rfl, r, n, rfl, rfl, n0, ?_⟩
        refine ⟨_, rfl, pen, _, 2, _, rfl, rfl, .of upd_same, rfl, _, rfl, r, n, rfl, rfl, wide_div n0 (b := 60) (by omega) (by decide) (by decide), _, rfl, pen, _, 2, 2, rfl, rfl, upd_same, rfl, ?_⟩
        exact ⟨_, rfl, kk _ _ (fin r H1 e1).1 (fin r H1 e1).2 q0 q1⟩
      · refine iteBF (decide_eq_false (by rw [ec]; omega)) ⟨_, rfl, pen, _, 0, _, rfl, rfl, .of hpen, rfl, ca, _, rfl, .inl (.of hca), _, _, rfl, rfl, _, rfl, ?_⟩
        by_cases h2 : 0 < cs.length
        · obtain ⟨m, em, hm⟩ := mod_nat ((k : Int) * 5 + 3) h2
          refine iteB (decide_eq_true (by rw [ec]; omega)) ⟨_, rfl, pen, _, 0, _, rfl, rfl, .of hpen, rfl, _, rfl, _, _, rfl, rfl, .inr ⟨by decide, by decide⟩, _, _, rfl, rfl, _, rfl, pen, _, 0, _, rfl, rfl, .of hpen, rfl, ca, _, rfl, .inl (.of hca), _, _, rfl, rfl, ?_, ?_⟩
          · show (0 : Int) < (((List.map V.int cs).length : Nat) : Int)
            rw [ec]
            omega
          refine ⟨ca, _, _, .int cs[m], rfl, rfl, .of hca, ?_, _, _, rfl, rfl, ⟨by decide, by decide, by decide⟩, _, rfl, _, _, rfl, rfl, _, _, rfl, rfl, ?_, ?_⟩
          · show atI (cs.map V.int) (((k : Int) * 5 + 3) % (((List.map V.int cs).length : Nat) : Int)) = _
            rw [ec, em]
            exact atI_nat (by rw [List.getElem?_map, List.getElem?_eq_getElem hm]; rfl)
          · show (0 : Int) < 10 ^ (17 : Int).toNat + (k : Int)
            have : (0 : Int) ≤ (k : Int) := by omega
            have h17 : (0 : Int) < 10 ^ (17 : Int).toNat := by decide
            omega
          refine ⟨_, rfl, _, _, rfl, rfl, _, rfl, pen, _, 1, 1, rfl, rfl, hpen, rfl, _, rfl, _, rfl, _, k, rfl, kk2, fun r H1 e1 => ⟨_, rfl, pen, _, 2, 2, rfl, rfl, e1 _ _ upd_same, rfl, ?_⟩⟩
          have q0 := Int.emod_nonneg r (b := n) (by omega)
          have q1 := Int.emod_lt_of_pos r n0
          refine ⟨_, rfl, pen, _, 2, _, rfl, rfl, .of upd_same, rfl, _, rfl, r, n, rfl, rfl, n0, ?_⟩
          refine ⟨_, rfl, pen, _, 2, _, rfl, rfl, .of upd_same, rfl, _, rfl, r, n, rfl, rfl, wide_div n0 (b := 60) (by omega) (by decide) (by decide), _, rfl, pen, _, 2, 2, rfl, rfl, upd_same, rfl, ?_⟩
          exact ⟨_, rfl, kk _ _ (fin r H1 e1).1 (fin r H1 e1).2 q0 q1⟩
        · refine iteBF (decide_eq_false (by rw [ec]; omega)) ?_
          refine ⟨_, rfl, _, _, rfl, rfl, _, rfl, pen, _, 1, 1, rfl, rfl, hpen, rfl, _, rfl, _, rfl, _, k, rfl, kk2, fun r H1 e1 => ⟨_, rfl, pen, _, 2, 2, rfl, rfl, e1 _ _ upd_same, rfl, ?_⟩⟩
          have q0 := Int.emod_nonneg r (b := n) (by omega)
          have q1 := Int.emod_lt_of_pos r n0
          refine ⟨_, rfl, pen, _, 2, _, rfl, rfl, .of upd_same, rfl, _, rfl, r, n, rfl, rfl, n0, ?_⟩
          refine ⟨_, rfl, pen, _, 2, _, rfl, rfl, .of upd_same, rfl, _, rfl, r, n, rfl, rfl, wide_div n0 (b := 60) (by omega) (by decide) (by decide), _, rfl, pen, _, 2, 2, rfl, rfl, upd_same, rfl, ?_⟩
          exact ⟨_, rfl, kk _ _ (fin r H1 e1).1 (fin r H1 e1).2 q0 q1⟩
    · refine iteBF (decide_eq_false hh) ?_
      refine ⟨_, rfl, pen, _, 2, _, rfl, rfl, .of hpen, rfl, _, rfl, held, n, rfl, rfl, n0, ?_⟩
      refine ⟨_, rfl, pen, _, 2, _, rfl, rfl, .of hpen, rfl, _, rfl, held, n, rfl, rfl, dv, _, rfl, pen, _, 2, 2, rfl, rfl, hpen, rfl, ?_⟩
      refine ⟨_, rfl, kk _ _ (.put hpen) ⟨k, _, cs, upd_same, by rw [upd_ne hne]; exact hca, hl, by omega, hne⟩ m0 m1⟩
end
end BR
end
section
set_option Elab.async false
set_option linter.all false
set_option maxRecDepth 100000
set_option maxHeartbeats 1000000
namespace BR
open PySem PySem.Spec PyProof.Rows L2
def spOneOf : Sp := fun vs H Q _ => ∃ (pen ca l : Addr) (xs : List V) (B : Nat), vs = [.ref pen, .ref l] ∧ Pen H pen ca B ∧ B ≤ 4000 ∧ H l = some (.lst xs) ∧ l ≠ pen ∧ 0 < xs.length ∧ xs.length ≤ 1000 ∧ ∀ v H', Bt pen H H' → Pen H' pen ca (B + 1) → v ∈ xs → Q v H'
def spLFrac (K : PySem.W.Frag) : Sp := fun vs H Q _ => ∃ t b : Int, vs = [.int t, .int b] ∧ 0 < b ∧ b < 2 ^ 60 ∧ ∀ v H', Same H H' → Fr K H' v (Rat.divInt t b) → Q v H'
/-- a draw: c turns of the pen at most, an answer that R says -/
def spDraw (c : Nat) (R : Hp → V → Prop) : Sp := fun vs H Q _ => ∃ (pen ca : Addr) (B : Nat), vs = [.ref pen] ∧ Pen H pen ca B ∧ B + c ≤ 4000 ∧ ∀ v H', Bt pen H H' → Pen H' pen ca (B + c) → R H' v → Q v H'
def isAmt (K : PySem.W.Frag) (H : Hp) (v : V) : Prop := ∃ q, Fr K H v q ∧ Sz 40 q
theorem Pen.here {H : Hp} {pen ca : Addr} {B : Nat} (h : Pen H pen ca B) : H pen ≠ none := by
  obtain ⟨k, held, cs, a, _⟩ := h
  rw [a]
  exact fun z => nomatch z
theorem Pen.off {H : Hp} {pen ca l : Addr} {B : Nat} (h : Pen H pen ca B) (n : H l = none) : l ≠ pen := fun e => h.here (e ▸ n)
theorem Pen.cell {H : Hp} {pen ca : Addr} {B : Nat} (h : Pen H pen ca B) : H ca ≠ none := by
  obtain ⟨k, held, cs, _, a, _⟩ := h
  rw [a]
  exact fun z => nomatch z
theorem Pen.put {H : Hp} {pen ca D : Addr} {B : Nat} {o : HO} (h : Pen H pen ca B) (h1 : D ≠ pen) (h2 : D ≠ ca) : Pen (upd H D o) pen ca B := by
  obtain ⟨n, held, cs, a, b, c, d, f⟩ := h
  exact ⟨n, held, cs, by rw [upd_ne h1.symm]; exact a, by rw [upd_ne h2.symm]; exact b, c, d, f⟩
theorem bt_new {H H1 : Hp} {pen l : Addr} {o : HO} (b : Bt pen H H1) (n : H1 l = none) : Bt pen H (upd H1 l o) := b.trans (.same (same_new n))
theorem comm_pos {t b : Int} (hb : 0 < b) : comm t b = (Int.gcd t b : Int) := if_neg (by omega)
theorem comm_le {t b : Int} (hb : 0 < b) : 0 < comm t b ∧ comm t b ≤ b := by
  rw [comm_pos hb]
  have h1 : 0 < Int.gcd t b := Int.gcd_pos_iff.mpr (.inr (by omega))
  have h2 : ((Int.gcd t b : Nat) : Int) ≤ b := Int.le_of_dvd hb (Int.gcd_dvd_right ..)
  omega
theorem divf {t c : Int} (hc : 0 < c) : t / c = t.fdiv c := (Int.fdiv_eq_ediv_of_nonneg t (by omega)).symm
section
variable {P : Program} {w : World} {K : PySem.W.Frag} {mg : Str → Option Value} {base : Heap}
theorem scOneOf : FnScope ["_law_pen", "_law_some"] ["_law_pen", "_law_some"] (defScope (topS 35)) := ⟨rfl, rfl, rfl, by decide +kernel, rfl, by decide +kernel, by decide +kernel⟩
theorem d_oneOf (T : Tx P K mg base) : Def P w K mg base "_law_one_of" 3 ["_law_pen", "_law_some"] (spOneOf) := by
  obtain ⟨f, fd, hm, F⟩ := T.lOneOf
  refine ⟨f, fd, hm, F.kp, F.binds (ps := ["_law_pen", "_law_some"]) fun _ _ _ _ _ _ us hl => match us, hl with | [_, _], _ => rfl, F.ok scOneOf (fun vs H Q E h => ?_) (fun cdv A outer s H vs Q E hr h => ?_)⟩
  · obtain ⟨pen, ca, l, xs, B, rfl, _⟩ := h
    rfl
  · obtain ⟨pen, ca, l, xs, B, rfl, hp, hB, hl, hne, x0, x1, kk⟩ := h
    refine ⟨_, pss_one (ps_ret (pe_ix ix_list (pv 1) (pe_def (d_take T) (hr.mono (by decide)) (pa_cons (pv 0) (pa_cons (pe_callB call_len_seq (by rfl) T.bLen PySem.boot_len (pa_cons (pv 1) pa_nil)) pa_nil))) fun _ _ => rfl)), ?_⟩
    refine ⟨_, rfl, _, rfl, _, rfl, l, _, rfl, .inl (.of hl), pen, ca, _, B, rfl, hp, hB, by omega, by omega, fun r H1 bt p1 r0 r1 => ?_⟩
    obtain ⟨m, rfl⟩ := Int.eq_ofNat_of_zero_le r0
    have hm : m < xs.length := by omega
    have hl1 := bt.but l _ hne hl
    exact ⟨l, xs, _, xs[m], rfl, rfl, .of hl1, atI_nat (List.getElem?_eq_getElem hm), kk _ H1 bt p1 (List.getElem_mem hm)⟩
theorem scGcd : FnScope ["_law_a", "_law_b"] ["_law_a", "_law_b"] (defScope (topS 36)) := ⟨rfl, rfl, rfl, by decide +kernel, rfl, by decide +kernel, by decide +kernel⟩
theorem d_lgcd (T : Tx P K mg base) : Def P w K mg base "_law_gcd" 1 ["_law_a", "_law_b"] spDivisor := by
  obtain ⟨f, fd, hm, F⟩ := T.lGcd
  refine ⟨f, fd, hm, F.kp, F.binds (ps := ["_law_a", "_law_b"]) fun _ _ _ _ _ _ us hl => match us, hl with | [_, _], _ => rfl, F.ok scGcd (fun vs H Q E h => ?_) (fun cdv A outer s H vs Q E hr h => ?_)⟩
  · obtain ⟨a, b, rfl, _⟩ := h
    rfl
  · obtain ⟨a, b, rfl, k⟩ := h
    refine ⟨_, pss_cons (ps_while PassesOwn.never (pt_cmpR op_ne (pv 1) pe_int (nomark _))
        (pss_one (ps_par (i := 0) (j := 1) (by rfl) scGcd.nd rfl rfl (by decide) rfl rfl (pa_cons (pv 1) (pa_cons (pe_op op_modN (pv 0) (pv 1)) pa_nil)) (by rfl))))
      (pss_one (ps_ret (pe_callB call_abs (by rfl) T.bAbs boot_abs (pa_cons (pv 0) pa_nil)))), ?_⟩
    refine while_by (fun σ H' => ∃ x y : Int, σ = [some (.int x), some (.int y)] ∧ H' = H ∧ Int.gcd x y = Int.gcd a b) (fun σ _ => match σ with | [_, some (.int y)] => y.natAbs | _ => 0) ⟨a, b, rfl, rfl, rfl⟩ ?_ ?_
    · rintro σ H' ⟨x, y, rfl, rfl, hg⟩
      refine ⟨_, rfl, rfl, _, rfl, ?_⟩
      by_cases hy : y = 0
      · subst hy
        refine iteNS rfl ?_
        refine ⟨_, rfl, _, rfl, ?_⟩
        rw [abs_gcd, hg]
        exact k
      · refine iteB (ndec fun z => hy (V.int.inj z)) ?_
        refine ⟨_, rfl, _, rfl, _, rfl, _, _, rfl, rfl, hy, _, _, rfl, ⟨y, x.fmod y, rfl, rfl, ?_⟩, ?_⟩
        · rw [gcd_fmod, hg]
        · exact fmod_lt hy
    · rintro σ H' Q Q' hQ ⟨v, e, h1, k, e2, h2⟩
      exact ⟨v, e, h1, k, e2, hQ _ _ h2⟩
abbrev nLFrac : List Str := ["_law_top", "_law_bottom", "_law_by_all"]
theorem scLFrac : FnScope nLFrac ["_law_top", "_law_bottom"] (defScope (topS 37)) := ⟨rfl, rfl, rfl, by decide +kernel, rfl, by decide +kernel, by decide +kernel⟩
theorem d_lfrac (T : Tx P K mg base) : Def P w K mg base "_law_fraction" 2 ["_law_top", "_law_bottom"] (spLFrac K) := by
  obtain ⟨f, fd, hm, F⟩ := T.lFraction
  refine ⟨f, fd, hm, F.kp, F.binds (ps := ["_law_top", "_law_bottom"]) fun _ _ _ _ _ _ us hl => match us, hl with | [_, _], _ => rfl, F.ok scLFrac (fun vs H Q E h => ?_) (fun cdv A outer s H vs Q E hr h => ?_)⟩
  · obtain ⟨a, b, rfl, _⟩ := h
    rfl
  · obtain ⟨t, b, rfl, hb, hb2, kk⟩ := h
    refine ⟨_, pss_cons (ps_set (i := 2) scLFrac.nd rfl (.inl rfl) (pe_op op_mul (pe_def (d_lgcd T) (hr.mono (by decide)) (pa_cons (pv 0) (pa_cons (pv 1) pa_nil))) (pe_ifExp (pt_cmpR op_gt (pv 1) pe_int (nomark _)) pe_int (pe_un un_neg pe_int))))
      (pss_one (ps_ret (pe_tup (pa_cons (pe_op op_fdivW (pv 0) (pv 2)) (pa_cons (pe_op op_fdivW (pv 1) (pv 2)) pa_nil))))), ?_⟩
    have ec : ((Int.gcd t b : Nat) : Int) * 1 = comm t b := by rw [Int.mul_one, comm_pos hb]
    have cl := comm_le (t := t) hb
    have dv : ∀ z, CDivW z (comm t b) := fun z => wide_div cl.1 (b := 60) (by omega) (by decide) (by decide)
    refine ⟨_, rfl, _, rfl, t, b, rfl, _, rfl, _, _, rfl, rfl, _, rfl, iteB (decide_eq_true hb) ⟨_, _, rfl, rfl, .inr ⟨by decide, by decide⟩, ?_⟩⟩
    dsimp only
    rw [ec]
    refine ⟨_, rfl, _, rfl, _, _, rfl, rfl, dv _, _, rfl, _, rfl, _, _, rfl, rfl, dv _, by show 2 ≤ sizeLine; decide, fun p np => ?_⟩
    refine kk _ _ (same_new np) ⟨p, rfl, .of ?_⟩
    rw [upd_same]
    show some (HO.tup [V.int (t / comm t b), V.int (b / comm t b)]) = _
    rw [divf cl.1, divf cl.1, frac_num (by omega), frac_den (by omega)]
end
end BR
end
section
set_option Elab.async false
set_option linter.all false
set_option maxRecDepth 100000
set_option maxHeartbeats 1000000
namespace BR
open PySem PySem.Spec PyProof.Rows L2
theorem in_one {p : V → Prop} {x : V} (h : p x) : ∀ v ∈ [x], p v := fun v hv => by
  rw [List.mem_singleton.mp hv]
  exact h
theorem in_cons {p : V → Prop} {x : V} {xs : List V} (h : p x) (t : ∀ v ∈ xs, p v) : ∀ v ∈ x :: xs, p v := fun v hv => by
  rcases List.mem_cons.mp hv with e | e
  · rw [e]; exact h
  · exact t v e
/-- an int from lo to hi -/
def isBetw (lo hi : Int) (v : V) : Prop := ∃ z : Int, v = .int z ∧ lo ≤ z ∧ z ≤ hi
theorem betw {lo hi z : Int} (h : lo ≤ z ∧ z ≤ hi) : isBetw lo hi (.int z) := ⟨z, rfl, h⟩
section
variable {P : Program} {w : World} {K : PySem.W.Frag} {mg : Str → Option Value} {base : Heap}
abbrev nDrawF : List Str := ["_law_pen", "_law_bottom", "_law_top"]
theorem scDrawF : FnScope nDrawF ["_law_pen"] (defScope (topS 38)) := ⟨rfl, rfl, rfl, by decide +kernel, rfl, by decide +kernel, by decide +kernel⟩
theorem d_drawFraction (T : Tx P K mg base) : Def P w K mg base "_law_draw_fraction" 4 ["_law_pen"] (spDraw 8 (isAmt K)) := by
  obtain ⟨f, fd, hm, F⟩ := T.lDrawFraction
  refine ⟨f, fd, hm, F.kp, F.binds (ps := ["_law_pen"]) fun _ _ _ _ _ _ us hl => match us, hl with | [_], _ => rfl, F.ok scDrawF (fun vs H Q E h => ?_) (fun cdv A outer s H vs Q E hr h => ?_)⟩
  · obtain ⟨pen, ca, B, rfl, _⟩ := h
    rfl
  · obtain ⟨pen, ca, B, rfl, hp, hB, kk⟩ := h
    refine ⟨_, pss_cons (ps_set (i := 1) scDrawF.nd rfl (.inl rfl) (pe_def (d_oneOf T) (hr.mono (by decide)) (pa_cons (pv 0) (pa_cons (pe_lst (pa_cons pe_int (pa_cons pe_int (pa_cons pe_int (pa_cons pe_int (pa_cons pe_int (pa_cons pe_int (pa_cons pe_int
          (pa_cons (pe_op op_add pe_int (pe_def (d_take T) (hr.mono (by decide)) (pa_cons (pv 0) (pa_cons pe_int pa_nil))))
          (pa_cons (pe_op op_add pe_int (pe_def (d_take T) (hr.mono (by decide)) (pa_cons (pv 0) (pa_cons (pe_op op_pow pe_int pe_int) pa_nil)))) pa_nil)))))))))) pa_nil))))
      (pss_cons (ps_set (i := 2) scDrawF.nd rfl (.inl rfl) (pe_def (d_oneOf T) (hr.mono (by decide)) (pa_cons (pv 0) (pa_cons (pe_lst (pa_cons pe_int (pa_cons pe_int (pa_cons pe_int (pa_cons (pv 1)
          (pa_cons (pe_def (d_take T) (hr.mono (by decide)) (pa_cons (pv 0) (pa_cons pe_int pa_nil)))
          (pa_cons (pe_def (d_take T) (hr.mono (by decide)) (pa_cons (pv 0) (pa_cons (pe_op op_mul pe_int (pv 1)) pa_nil)))
          (pa_cons (pe_def (d_take T) (hr.mono (by decide)) (pa_cons (pv 0) (pa_cons (pe_op op_pow pe_int pe_int) pa_nil))) pa_nil)))))))) pa_nil))))
      (pss_one (ps_ret (pe_def (d_lfrac T) (hr.mono (by decide)) (pa_cons (pe_op op_mul (pe_callB (call_min2 rfl) (by rfl) T.bMin boot_min (pa_cons (pv 2) (pa_cons (pe_op op_sub (pe_op op_pow pe_int pe_int) pe_int) pa_nil)))
          (pe_def (d_oneOf T) (hr.mono (by decide)) (pa_cons (pv 0) (pa_cons (pe_lst (pa_cons pe_int (pa_cons pe_int (pa_cons (pe_un un_neg pe_int) pa_nil)))) pa_nil)))) (pa_cons (pv 1) pa_nil)))))), ?_⟩
    have ten9 : (10 : Int) ^ (9 : Int).toNat = 1000000000 := by decide
    refine ⟨_, rfl, _, rfl, pen, ca, 40, B, rfl, hp, by omega, by decide, by decide, fun r1 H1 b1 p1 r10 r11 => ?_⟩
    refine ⟨_, _, rfl, rfl, _, rfl, _, _, rfl, rfl, ⟨by decide, by decide, by decide⟩, pen, ca, _, B + 1, rfl, p1, by omega, by decide, by decide, fun r2 H2 b2 p2 r20 r21 => ?_⟩
    rw [ten9] at r21
    refine ⟨_, _, rfl, rfl, by show 9 ≤ sizeLine; decide, fun l nl => ?_⟩
    refine ⟨pen, ca, l, _, B + 2, rfl, p2.same (same_new nl), by omega, upd_same, p2.off nl, by show 0 < 9; decide, by show 9 ≤ 1000; decide, fun v H3 b3 p3 hv => ?_⟩
    obtain ⟨bo, rfl, bo1, bo2⟩ : isBetw 1 1000000000 v := by
      refine in_cons (betw (by decide)) (in_cons (betw (by decide)) (in_cons (betw (by decide)) (in_cons (betw (by decide)) (in_cons (betw (by decide)) (in_cons (betw (by decide)) (in_cons (betw (by decide)) (in_cons (betw (by omega)) (in_one (betw (by omega)))))))))) v hv
    have bA := ((b1.trans b2).trans (.same (same_new nl))).trans b3
    refine ⟨_, rfl, _, rfl, _, rfl, pen, ca, 9, B + 3, rfl, p3, by omega, by decide, by decide, fun r4 H4 b4 p4 r40 r41 => ?_⟩
    refine ⟨_, rfl, _, rfl, _, _, rfl, rfl, .inl ⟨by decide, by decide⟩, pen, ca, _, B + 4, rfl, p4, by omega, by omega, by omega, fun r5 H5 b5 p5 r50 r51 => ?_⟩
    refine ⟨_, rfl, _, _, rfl, rfl, ⟨by decide, by decide, by decide⟩, pen, ca, _, B + 5, rfl, p5, by omega, by decide, by decide, fun r6 H6 b6 p6 r60 r61 => ?_⟩
    rw [ten9] at r61
    refine ⟨by show 7 ≤ sizeLine; decide, fun l2 nl2 => ?_⟩
    refine ⟨pen, ca, l2, _, B + 6, rfl, p6.same (same_new nl2), by omega, upd_same, p6.off nl2, by show 0 < 7; decide, by show 7 ≤ 1000; decide, fun v H7 b7 p7 hv => ?_⟩
    obtain ⟨tp, rfl, tp1, tp2⟩ : isBetw 0 9000000000 v := by
      refine in_cons (betw (by decide)) (in_cons (betw (by decide)) (in_cons (betw (by decide)) (in_cons (betw (by omega)) (in_cons (betw (by omega)) (in_cons (betw (by omega)) (in_one (betw (by omega)))))))) v hv
    have bB := bA.trans (((b4.trans b5).trans b6).trans ((Bt.same (same_new nl2)).trans b7))
    refine ⟨_, rfl, _, _, rfl, rfl, ⟨by decide, by decide, by decide⟩, _, _, rfl, rfl, _, _, rfl, ?_⟩
    refine ⟨_, rfl, _, rfl, by show 3 ≤ sizeLine; decide, fun l3 nl3 => ?_⟩
    refine ⟨pen, ca, l3, _, B + 7, rfl, p7.same (same_new nl3), by omega, upd_same, p7.off nl3, by show 0 < 3; decide, by show 3 ≤ 1000; decide, fun v H8 b8 p8 hv => ?_⟩
    obtain ⟨sg, rfl, sg1, sg2⟩ : isBetw (-1) 1 v := by
      refine in_cons (betw (by decide)) (in_cons (betw (by decide)) (in_one (betw (by decide)))) v hv
    have bC := bB.trans ((Bt.same (same_new nl3)).trans b8)
    have cap : ∃ z : Int, (if (10 : Int) ^ (9 : Int).toNat - 1 < tp then (10 : Int) ^ (9 : Int).toNat - 1 else tp) = z ∧ 0 ≤ z ∧ z ≤ 999999999 := by
      rw [ten9]
      split
      · exact ⟨_, rfl, by decide, by decide⟩
      · exact ⟨_, rfl, tp1, by omega⟩
    obtain ⟨z, ez, z0, z1⟩ := cap
    refine ⟨_, _, rfl, rfl, .inr ⟨by omega, by omega⟩, _, rfl, _, bo, rfl, by omega, by omega, fun v H9 e9 f9 => ?_⟩
    rw [ez] at f9
    have zs : (z * sg).natAbs < 2 ^ 40 := by
      have : sg = -1 ∨ sg = 0 ∨ sg = 1 := by omega
      rcases this with h | h | h <;> rw [h] <;> omega
    exact kk v H9 (bC.trans (.same e9)) (p8.same e9) ⟨_, f9, sz_divInt (by omega) zs (by omega)⟩
theorem scDrawS : FnScope ["_law_pen", "_law_bottom"] ["_law_pen"] (defScope (topS 39)) := ⟨rfl, rfl, rfl, by decide +kernel, rfl, by decide +kernel, by decide +kernel⟩
theorem d_drawSmall (T : Tx P K mg base) : Def P w K mg base "_law_draw_small" 4 ["_law_pen"] (spDraw 3 (isAmt K)) := by
  obtain ⟨f, fd, hm, F⟩ := T.lDrawSmall
  refine ⟨f, fd, hm, F.kp, F.binds (ps := ["_law_pen"]) fun _ _ _ _ _ _ us hl => match us, hl with | [_], _ => rfl, F.ok scDrawS (fun vs H Q E h => ?_) (fun cdv A outer s H vs Q E hr h => ?_)⟩
  · obtain ⟨pen, ca, B, rfl, _⟩ := h
    rfl
  · obtain ⟨pen, ca, B, rfl, hp, hB, kk⟩ := h
    refine ⟨_, pss_cons (ps_set (i := 1) scDrawS.nd rfl (.inl rfl) (pe_def (d_oneOf T) (hr.mono (by decide)) (pa_cons (pv 0) (pa_cons (pe_lst (pa_cons pe_int (pa_cons pe_int (pa_cons pe_int (pa_cons pe_int (pa_cons pe_int (pa_cons pe_int (pa_cons pe_int pa_nil)))))))) pa_nil))))
      (pss_one (ps_ret (pe_def (d_lfrac T) (hr.mono (by decide)) (pa_cons (pe_op op_mul (pe_def (d_take T) (hr.mono (by decide)) (pa_cons (pv 0) (pa_cons (pe_op op_add (pe_op op_mul pe_int (pv 1)) pe_int) pa_nil)))
          (pe_def (d_oneOf T) (hr.mono (by decide)) (pa_cons (pv 0) (pa_cons (pe_lst (pa_cons pe_int (pa_cons pe_int (pa_cons (pe_un un_neg pe_int) pa_nil)))) pa_nil)))) (pa_cons (pv 1) pa_nil))))), ?_⟩
    refine ⟨_, rfl, by show 7 ≤ sizeLine; decide, fun l nl => ?_⟩
    refine ⟨pen, ca, l, _, B, rfl, hp.same (same_new nl), by omega, upd_same, hp.off nl, by show 0 < 7; decide, by show 7 ≤ 1000; decide, fun v H3 b3 p3 hv => ?_⟩
    obtain ⟨bo, rfl, bo1, bo2⟩ : isBetw 1 7 v := by
      refine in_cons (betw (by decide)) (in_cons (betw (by decide)) (in_cons (betw (by decide)) (in_cons (betw (by decide)) (in_cons (betw (by decide)) (in_cons (betw (by decide)) (in_one (betw (by decide)))))))) v hv
    have bA := (Bt.same (D := pen) (same_new nl)).trans b3
    refine ⟨_, rfl, _, rfl, _, _, rfl, rfl, .inl ⟨by decide, by decide⟩, _, _, rfl, rfl, pen, ca, _, B + 1, rfl, p3, by omega, by omega, by omega, fun r5 H5 b5 p5 r50 r51 => ?_⟩
    refine ⟨_, rfl, _, rfl, by show 3 ≤ sizeLine; decide, fun l3 nl3 => ?_⟩
    refine ⟨pen, ca, l3, _, B + 2, rfl, p5.same (same_new nl3), by omega, upd_same, p5.off nl3, by show 0 < 3; decide, by show 3 ≤ 1000; decide, fun v H8 b8 p8 hv => ?_⟩
    obtain ⟨sg, rfl, sg1, sg2⟩ : isBetw (-1) 1 v := by
      refine in_cons (betw (by decide)) (in_cons (betw (by decide)) (in_one (betw (by decide)))) v hv
    have bC := bA.trans (b5.trans ((Bt.same (same_new nl3)).trans b8))
    refine ⟨_, _, rfl, rfl, .inr ⟨by omega, by omega⟩, _, rfl, _, bo, rfl, by omega, by omega, fun v H9 e9 f9 => ?_⟩
    have zs : (r5 * sg).natAbs < 2 ^ 40 := by
      have : sg = -1 ∨ sg = 0 ∨ sg = 1 := by omega
      rcases this with h | h | h <;> rw [h] <;> omega
    exact kk v H9 (bC.trans (.same e9)) (p8.same e9) ⟨_, f9, sz_divInt (by omega) zs (by omega)⟩
end
end BR
end
section
set_option Elab.async false
set_option linter.all false
set_option maxRecDepth 100000
set_option maxHeartbeats 1000000
namespace BR
open PySem PySem.Spec PyProof.Rows L2
theorem bt_put {H1 H : Hp} {pen D : Addr} {acc : List V} {o : HO} (b : Bt pen H1 H) (nD : H1 D = none) (h : H D = some (.lst acc)) : Bt pen H1 (upd H D o) :=
  ⟨b.tk.trans (.lst h), fun x u hx e => by rw [upd_ne (ne_of_none e nD)]; exact b.but x u hx e⟩
/-- a comprehension whose items are drawn with the pen -/
theorem lc_pen {J : It} {n : Nat} {G : Hp → Prop} {Y : Nat → Hp → V → Hp → Prop} (w : Walk J n G Y) {g : TG} {te : TE} {vs : List Nat} {σ : L2.St} {H1 : Hp} {D : Addr} {Qd : Hp → Prop} {pen ca : Addr} {B : Nat} (c : Nat)
    (R : Hp → V → Prop) (nD : H1 D = none) (hz : n ≤ 100) (p0 : Pen H1 pen ca B) (hG : ∀ H, Bt pen H1 H → G H) (st : ∀ H H' v, Tk H H' → R H v → R H' v)
    (hs : ∀ i x H H', i < n → Bt pen H1 H → Pen H pen ca (B + c * i) → Y i H x H' → ∀ k : V → Hp → Prop, (∀ y H4, Bt pen H H4 → Pen H4 pen ca (B + c * i + c) → R H4 y → k y H4) →
      g x (wipe σ vs) H' fun σ2 H2 => wipe σ2 vs = wipe σ vs ∧ te σ2 H2 k)
    (hd : ∀ H ys, Bt pen H1 H → Pen H pen ca (B + c * n) → H D = some (.lst ys) → ys.length = n → (∀ y ∈ ys, R H y) → Qd H) :
    ∃ W : Nat → Nat → Hp → Prop, (∃ m, W 0 m (upd H1 D (.lst []))) ∧ ∀ i m H, W i m H →
      (J.stop i H ∧ Qd H) ∨ (J.go i H ∧ ∃ Nx : Hp → Prop, (∀ H', Nx H' → ∃ m', m' < m ∧ W (i + 1) m' H') ∧ ∀ x H', J.yld i H x H' → g x (wipe σ vs) H' fun σ2 H2 => wipe σ2 vs = wipe σ vs ∧ tYes σ2 H2 fun b H3 =>
        if b = true then te σ2 H3 fun y H4 => ∃ acc, H4 D = some (.lst acc) ∧ acc.length < sizeLine ∧ Nx (upd H4 D (.lst (acc ++ [y]))) else Nx H3) := by
  have d1 : D ≠ pen := fun e => p0.here (e ▸ nD)
  have d2 : D ≠ ca := fun e => p0.cell (e ▸ nD)
  refine lc_it w (fun i H => Bt pen H1 H ∧ Pen H pen ca (B + c * i) ∧ ∃ ys, H D = some (.lst ys) ∧ ys.length = i ∧ ∀ y ∈ ys, R H y)
    ⟨.same (same_new nD), p0.same (same_new nD), [], upd_same, rfl, fun y h => by cases h⟩ (fun i H _ h => hG H h.1) ?_ ?_
  · rintro i x H H' hi ⟨b1, p1, ys, hD, hl, hR⟩ y
    refine hs i x H H' hi b1 p1 y _ fun y H4 b4 p4 r4 => ?_
    have hD4 := b4.but D _ d1 hD
    refine ⟨ys, hD4, by rw [hl]; exact Nat.lt_of_lt_of_le hi (Nat.le_trans hz (by decide)), bt_put (b1.trans b4) nD hD4, by rw [Nat.mul_succ, ← Nat.add_assoc]; exact p4.put d1 d2, ys ++ [y], upd_same, by rw [List.length_append, hl]; rfl, fun u hu => ?_⟩
    rcases List.mem_append.mp hu with h | h
    · exact st _ _ _ (.lst hD4) (st _ _ _ b4.tk (hR u h))
    · rw [List.mem_singleton.mp h]
      exact st _ _ _ (.lst hD4) r4
  · rintro H ⟨b1, p1, ys, hD, hl, hR⟩
    exact hd H ys b1 p1 hD hl hR
theorem exists_list {α : Type} {p : V → α → Prop} : ∀ {ys : List V}, (∀ y ∈ ys, ∃ r, p y r) → ∃ L : List α, L.length = ys.length ∧ (∀ (i : Nat) (y : V) (r : α), ys[i]? = some y → L[i]? = some r → p y r) ∧ ∀ r ∈ L, ∃ y, p y r
  | [], _ => ⟨[], rfl, fun i y r h => by simp at h, fun r h => by cases h⟩
  | y :: ys, h => by
    obtain ⟨r, hr⟩ := h y List.mem_cons_self
    obtain ⟨L, hl, hL, hm⟩ := exists_list fun z hz => h z (List.mem_cons_of_mem _ hz)
    refine ⟨r :: L, by rw [List.length_cons, List.length_cons, hl], fun i z q h1 h2 => ?_, fun q hq => ?_⟩
    · cases i with
      | zero =>
        cases Option.some.inj h1
        cases Option.some.inj h2
        exact hr
      | succ i => exact hL i z q (by simpa using h1) (by simpa using h2)
    · rcases List.mem_cons.mp hq with e | e
      · rw [e]; exact ⟨y, hr⟩
      · exact hm q e
def isRow (K : PySem.W.Frag) (H : Hp) (v : V) : Prop := ∃ r, TupF K H v r ∧ RowOk r
def isRest (K : PySem.W.Frag) (H : Hp) (v : V) : Prop := ∃ q, Fr K H v q ∧ 0 ≤ q ∧ q ≤ 1 ∧ Sz 10 q
def isFac (K : PySem.W.Frag) (H : Hp) (v : V) : Prop := ∃ q, Fr K H v q ∧ 0 < q ∧ Sz 10 q
theorem isAmt.tk {K : PySem.W.Frag} {H H' : Hp} {v : V} (e : Tk H H') (h : isAmt K H v) : isAmt K H' v := by
  obtain ⟨q, f, s⟩ := h
  exact ⟨q, f.tk e, s⟩
theorem isRow.tk {K : PySem.W.Frag} {H H' : Hp} {v : V} (e : Tk H H') (h : isRow K H v) : isRow K H' v := by
  obtain ⟨q, f, s⟩ := h
  exact ⟨q, f.tk e, s⟩
theorem isRest.tk {K : PySem.W.Frag} {H H' : Hp} {v : V} (e : Tk H H') (h : isRest K H v) : isRest K H' v := by
  obtain ⟨q, f, s⟩ := h
  exact ⟨q, f.tk e, s⟩
theorem isFac.tk {K : PySem.W.Frag} {H H' : Hp} {v : V} (e : Tk H H') (h : isFac K H v) : isFac K H' v := by
  obtain ⟨q, f, s⟩ := h
  exact ⟨q, f.tk e, s⟩
theorem fr_lit {K : PySem.W.Frag} {H : Hp} {t : Addr} {n d : Int} (h : SqT K H t [.int n, .int d]) (e1 : (Rat.divInt n d).num = n) (e2 : ((Rat.divInt n d).den : Int) = d) : Fr K H (.ref t) (Rat.divInt n d) :=
  ⟨t, rfl, by rw [e1, e2]; exact h⟩
theorem div_num {t b : Int} (hb : 0 < b) : (Rat.divInt t b).num = t / comm t b := by rw [← frac_num (by omega), divf (comm_le hb).1]
theorem div_den {t b : Int} (hb : 0 < b) : ((Rat.divInt t b).den : Int) = b / comm t b := by rw [← frac_den (by omega), divf (comm_le hb).1]
theorem div_nn {t b : Int} (ht : 0 ≤ t) (hb : 0 < b) : 0 ≤ Rat.divInt t b := by
  rw [← Rat.num_nonneg, div_num hb]
  exact Int.ediv_nonneg ht (by have := (comm_le (t := t) hb).1; omega)
theorem div_pos' {t b : Int} (ht : 0 < t) (hb : 0 < b) : 0 < Rat.divInt t b := by
  rw [Rat.lt_iff, div_num hb]
  show 0 * ((Rat.divInt t b).den : Int) < t / comm t b * 1
  rw [Int.zero_mul, Int.mul_one]
  have c := (comm_le (t := t) hb).1
  refine Int.ediv_pos_of_pos_of_dvd ht (by omega) ?_
  rw [comm_pos hb]
  exact Int.gcd_dvd_left ..
theorem div_le1 {t b : Int} (h : t ≤ b) (hb : 0 < b) : Rat.divInt t b ≤ 1 := by
  rw [Rat.le_iff, div_num hb]
  show t / comm t b * 1 ≤ 1 * ((Rat.divInt t b).den : Int)
  rw [div_den hb]
  have := Int.ediv_le_ediv (comm_le (t := t) hb).1 h
  omega
section
variable {P : Program} {w : World} {K : PySem.W.Frag} {mg : Str → Option Value} {base : Heap}
def spDrawRow (K : PySem.W.Frag) : Sp := fun vs H Q _ => ∃ (pen ca : Addr) (B : Nat), vs = [.ref pen, .int 6] ∧ Pen H pen ca B ∧ B + 58 ≤ 4000 ∧ ∀ v H', Bt pen H H' → Pen H' pen ca (B + 58) → isRow K H' v → Q v H'
abbrev nDrawR : List Str := ["_law_pen", "_law_most", "_law_some", "_law_found", "_law_again"]
theorem scDrawR : FnScope nDrawR ["_law_pen", "_law_most"] (defScope (topS 40)) := ⟨rfl, rfl, rfl, by decide +kernel, rfl, by decide +kernel, by decide +kernel⟩
theorem d_drawRow (T : Tx P K mg base) : Def P w K mg base "_law_draw_row" 5 ["_law_pen", "_law_most"] (spDrawRow K) := by
  obtain ⟨f, fd, hm, F⟩ := T.lDrawRow
  refine ⟨f, fd, hm, F.kp, F.binds (ps := ["_law_pen", "_law_most"]) fun _ _ _ _ _ _ us hl => match us, hl with | [_, _], _ => rfl, F.ok scDrawR (fun vs H Q E h => ?_) (fun cdv A outer s H vs Q E hr h => ?_)⟩
  · obtain ⟨pen, ca, B, rfl, _⟩ := h
    rfl
  · obtain ⟨pen, ca, B, rfl, hp, hB, kk⟩ := h
    refine ⟨_, pss_cons (ps_set (i := 2) scDrawR.nd rfl (.inr rfl) (pe_lst (pa_cons (pe_tup (pa_cons pe_int (pa_cons pe_int pa_nil))) (pa_cons (pe_tup (pa_cons pe_int (pa_cons pe_int pa_nil))) (pa_cons (pe_tup (pa_cons pe_int (pa_cons pe_int pa_nil)))
          (pa_cons (pe_tup (pa_cons pe_int (pa_cons pe_int pa_nil))) (pa_cons (pe_tup (pa_cons pe_int (pa_cons pe_int pa_nil))) (pa_cons (pe_def (d_drawSmall T) (hr.mono (by decide)) (pa_cons (pv 0) pa_nil)) pa_nil))))))))
      (pss_cons (ps_setLc (i := 3) (own := [("_law_again", 4)]) (g := gName 4) (tt := tYes)
          (te := tCall spOneOf [] E0 (tCons (tVar 0) (tCons (tOp rCat (tVar 2) (tLst (tCons (tCall (spDraw 8 (isAmt K)) [] E0 (tCons (tVar 0) tNil)) tNil))) tNil))) rfl scDrawR.nd rfl rfl (sw_true rfl rfl rfl (by decide +kernel))
          (pi_range1 rfl T.bRange (pa_cons (pe_op op_add pe_int (pe_def (d_take T) (hr.mono (by decide)) (pa_cons (pv 0) (pa_cons (pv 1) pa_nil)))) pa_nil))
          (blkOk_by (N := nDrawR) (sc := defScope (topS 40)) (by decide +kernel)) (fun _ _ _ _ _ => pg_name (i := 4) scDrawR.nd rfl (.inl rfl)) (fun _ _ _ _ _ => pts_nil)
          (fun _ _ _ _ _ => pe_def (d_oneOf T) (hr.mono (by decide)) (pa_cons (pv 0) (pa_cons (pe_op op_cat (pv 2) (pe_lst (pa_cons (pe_def (d_drawFraction T) (hr.mono (by decide)) (pa_cons (pv 0) pa_nil)) pa_nil))) pa_nil))))
      (pss_one (ps_ret (pe_callTy call_tuple_of (by rfl) T.bTuple PyProof.Rows.boot_tuple (pa_cons (pv 3) pa_nil))))), ?_⟩
    -- the tuples
    have amt : ∀ {H0 : Hp} {t : Addr} {n d : Int}, SqT K H0 t [.int n, .int d] → (Rat.divInt n d).num = n → ((Rat.divInt n d).den : Int) = d → 0 < d → n.natAbs < 2 ^ 40 → d.natAbs < 2 ^ 40 → isAmt K H0 (.ref t) :=
      fun h e1 e2 h0 h1 h2 => ⟨_, fr_lit h e1 e2, sz_divInt (by omega) h1 h2⟩
    refine ⟨by show 2 ≤ sizeLine; decide, fun t1 n1 => ?_⟩
    have s1 := same_new (o := .tup [.int 0, .int 1]) n1
    have f1 : isAmt K (upd H t1 (.tup [.int 0, .int 1])) (.ref t1) := amt (.of upd_same) (by decide) (by decide) (by decide) (by decide) (by decide)
    generalize upd H t1 (.tup [.int 0, .int 1]) = H1 at s1 f1 ⊢
    refine ⟨by show 2 ≤ sizeLine; decide, fun t2 n2 => ?_⟩
    have s2 := same_new (o := .tup [.int 5, .int 1]) n2
    have f2 : isAmt K (upd H1 t2 (.tup [.int 5, .int 1])) (.ref t2) := amt (.of upd_same) (by decide) (by decide) (by decide) (by decide) (by decide)
    generalize upd H1 t2 (.tup [.int 5, .int 1]) = H2 at s2 f2 ⊢
    refine ⟨by show 2 ≤ sizeLine; decide, fun t3 n3 => ?_⟩
    have s3 := same_new (o := .tup [.int 5, .int 1]) n3
    have f3 : isAmt K (upd H2 t3 (.tup [.int 5, .int 1])) (.ref t3) := amt (.of upd_same) (by decide) (by decide) (by decide) (by decide) (by decide)
    generalize upd H2 t3 (.tup [.int 5, .int 1]) = H3 at s3 f3 ⊢
    refine ⟨by show 2 ≤ sizeLine; decide, fun t4 n4 => ?_⟩
    have s4 := same_new (o := .tup [.int 100, .int 1]) n4
    have f4 : isAmt K (upd H3 t4 (.tup [.int 100, .int 1])) (.ref t4) := amt (.of upd_same) (by decide) (by decide) (by decide) (by decide) (by decide)
    generalize upd H3 t4 (.tup [.int 100, .int 1]) = H4 at s4 f4 ⊢
    refine ⟨by show 2 ≤ sizeLine; decide, fun t5 n5 => ?_⟩
    have s5 := same_new (o := .tup [.int 105, .int 1]) n5
    have f5 : isAmt K (upd H4 t5 (.tup [.int 105, .int 1])) (.ref t5) := amt (.of upd_same) (by decide) (by decide) (by decide) (by decide) (by decide)
    generalize upd H4 t5 (.tup [.int 105, .int 1]) = H5 at s5 f5 ⊢
    have e5 := (((s1.trans s2).trans s3).trans s4).trans s5
    refine ⟨_, rfl, pen, ca, B, rfl, hp.same e5, by omega, fun v6 H6 b6 p6 f6 => ?_⟩
    refine ⟨by show 6 ≤ sizeLine; decide, fun ls ns => ?_⟩
    have lp : ls ≠ pen := p6.off ns
    have k6 := b6.tk.trans (.same (same_new (o := .lst [.ref t1, .ref t2, .ref t3, .ref t4, .ref t5, v6]) ns))
    have p7 := p6.same (same_new (o := .lst [.ref t1, .ref t2, .ref t3, .ref t4, .ref t5, v6]) ns)
    have b7 := ((Bt.same (D := pen) e5).trans b6).trans (.same (same_new (o := .lst [.ref t1, .ref t2, .ref t3, .ref t4, .ref t5, v6]) ns))
    have all6 : ∀ v ∈ [V.ref t1, .ref t2, .ref t3, .ref t4, .ref t5, v6], isAmt K (upd H6 ls (.lst [.ref t1, .ref t2, .ref t3, .ref t4, .ref t5, v6])) v :=
      in_cons ((f1.tk (.same (((s2.trans s3).trans s4).trans s5))).tk k6) (in_cons ((f2.tk (.same ((s3.trans s4).trans s5))).tk k6) (in_cons ((f3.tk (.same (s4.trans s5))).tk k6) (in_cons ((f4.tk (.same s5)).tk k6) (in_cons (f5.tk k6) (in_one (f6.tk (.same (same_new ns))))))))
    have hls : (upd H6 ls (.lst [.ref t1, .ref t2, .ref t3, .ref t4, .ref t5, v6])) ls = some (.lst [.ref t1, .ref t2, .ref t3, .ref t4, .ref t5, v6]) := upd_same
    generalize upd H6 ls (.lst [.ref t1, .ref t2, .ref t3, .ref t4, .ref t5, v6]) = H7 at p7 b7 all6 hls ⊢
    refine ⟨_, rfl, _, rfl, pen, ca, 6, B + 3, rfl, p7, by omega, by decide, by decide, fun r H8 b8 p8 r0 r1 => ?_⟩
    refine ⟨_, _, rfl, rfl, _, rfl, by omega, by omega, fun D nD => ?_⟩
    have hls8 := b8.but ls _ lp hls
    have all8 : ∀ v ∈ [V.ref t1, .ref t2, .ref t3, .ref t4, .ref t5, v6], isAmt K H8 v := fun v hv => (all6 v hv).tk b8.tk
    refine lc_pen (walk_rng0 (n := (1 + r).toNat)) 9 (isAmt K) nD (by omega) p8 (fun H' e => trivial) (fun _ _ _ e h => h.tk e) ?_ ?_
    · rintro i x H9 H10 hi b9 p9 ⟨rfl, rfl⟩ k hk
      have q9 : B + 3 + 1 + 9 * i + 9 ≤ 4000 := by omega
      refine ⟨rfl, _, rfl, _, rfl, _, rfl, pen, ca, _, rfl, p9, by omega, fun v H11 b11 p11 f11 => ?_⟩
      refine ⟨by show 1 ≤ sizeLine; decide, fun l1 nl1 => ?_⟩
      have h9 := b9.but ls _ lp hls8
      have h11 := b11.but ls _ lp h9
      refine ⟨ls, l1, _, _, rfl, rfl, (same_new nl1) _ _ h11, upd_same, by show 7 ≤ sizeLine; decide, fun l2 nl2 => ?_⟩
      have s12 := (same_new (o := .lst [v]) nl1).trans (same_new (o := .lst ([V.ref t1, .ref t2, .ref t3, .ref t4, .ref t5, v6] ++ [v])) nl2)
      refine ⟨pen, ca, l2, _, _, rfl, p11.same s12, by omega, upd_same, (p11.same (same_new nl1)).off nl2, by show 0 < 7; decide, by show 7 ≤ 1000; decide, fun u H12 b12 p12 hu => ?_⟩
      refine hk u H12 (b11.trans ((Bt.same s12).trans b12)) (by simpa [Nat.add_assoc] using p12) ?_
      rcases List.mem_append.mp hu with h | h
      · exact ((all8 u h).tk ((b9.tk.trans b11.tk).trans (.same s12))).tk b12.tk
      · rw [List.mem_singleton.mp h]
        exact (f11.tk (.same s12)).tk b12.tk
    · intro H9 ys b9 p9 hD hly hR
      obtain ⟨L, hL, hat, hm⟩ := exists_list hR
      refine ⟨_, rfl, D, ys, rfl, .inl ⟨.of hD, fun t nt => ?_⟩⟩
      refine kk _ _ ((b7.trans b8).trans (bt_new b9 nt)) ((p9.same (same_new nt)).mono (by omega)) ⟨L, ⟨t, ys, rfl, .of upd_same, ⟨hL.symm, fun i v q h1 h2 => ((hat i v q h1 h2).1).same (same_new nt)⟩⟩, ⟨by omega, fun q hq => ?_⟩⟩
      obtain ⟨y, hy⟩ := hm q hq
      exact hy.2
end
end BR
end
section
set_option Elab.async false
set_option linter.all false
set_option maxRecDepth 100000
set_option maxHeartbeats 1000000
namespace BR
open PySem PySem.Spec PyProof.Rows L2
theorem rest_of {K : PySem.W.Frag} {H : Hp} {v : V} {t b : Int} (f : Fr K H v (Rat.divInt t b)) (h0 : 0 ≤ t) (h1 : t ≤ b) (hb : 0 < b) (hz : b < 1000) : isRest K H v :=
  ⟨_, f, div_nn h0 hb, div_le1 h1 hb, sz_divInt (by omega) (by omega) (by omega)⟩
theorem fac_of {K : PySem.W.Frag} {H : Hp} {v : V} {t b : Int} (f : Fr K H v (Rat.divInt t b)) (h0 : 0 < t) (h1 : t < 1000) (hb : 0 < b) (hz : b < 1000) : isFac K H v :=
  ⟨_, f, div_pos' h0 hb, sz_divInt (by omega) (by omega) (by omega)⟩
section
variable {P : Program} {w : World} {K : PySem.W.Frag} {mg : Str → Option Value} {base : Heap}
abbrev nDrawT : List Str := ["_law_pen", "_law_bottom", "_law_share"]
theorem scDrawT : FnScope nDrawT ["_law_pen"] (defScope (topS 41)) := ⟨rfl, rfl, rfl, by decide +kernel, rfl, by decide +kernel, by decide +kernel⟩
theorem d_drawRest (T : Tx P K mg base) : Def P w K mg base "_law_draw_rest" 4 ["_law_pen"] (spDraw 4 (isRest K)) := by
  obtain ⟨f, fd, hm, F⟩ := T.lDrawRest
  refine ⟨f, fd, hm, F.kp, F.binds (ps := ["_law_pen"]) fun _ _ _ _ _ _ us hl => match us, hl with | [_], _ => rfl, F.ok scDrawT (fun vs H Q E h => ?_) (fun cdv A outer s H vs Q E hr h => ?_)⟩
  · obtain ⟨pen, ca, B, rfl, _⟩ := h
    rfl
  · obtain ⟨pen, ca, B, rfl, hp, hB, kk⟩ := h
    refine ⟨_, pss_cons (ps_set (i := 1) scDrawT.nd rfl (.inl rfl) (pe_def (d_oneOf T) (hr.mono (by decide)) (pa_cons (pv 0) (pa_cons (pe_lst (pa_cons (pe_op op_add pe_int (pe_def (d_take T) (hr.mono (by decide)) (pa_cons (pv 0) (pa_cons pe_int pa_nil))))
          (pa_cons pe_int (pa_cons pe_int (pa_cons pe_int pa_nil))))) pa_nil))))
      (pss_cons (ps_set (i := 2) scDrawT.nd rfl (.inl rfl) (pe_def (d_lfrac T) (hr.mono (by decide)) (pa_cons (pe_def (d_take T) (hr.mono (by decide)) (pa_cons (pv 0) (pa_cons (pe_op op_add (pv 1) pe_int) pa_nil))) (pa_cons (pv 1) pa_nil))))
      (pss_one (ps_ret (pe_def (d_oneOf T) (hr.mono (by decide)) (pa_cons (pv 0) (pa_cons (pe_lst (pa_cons (pe_tup (pa_cons pe_int (pa_cons pe_int pa_nil))) (pa_cons (pe_tup (pa_cons pe_int (pa_cons pe_int pa_nil))) (pa_cons (pe_tup (pa_cons pe_int (pa_cons pe_int pa_nil))) (pa_cons (pv 2) (pa_cons (pv 2) pa_nil)))))) pa_nil)))))), ?_⟩
    refine ⟨_, rfl, _, rfl, pen, ca, 9, B, rfl, hp, by omega, by decide, by decide, fun r1 H1 b1 p1 r10 r11 => ?_⟩
    refine ⟨_, _, rfl, rfl, by show 4 ≤ sizeLine; decide, fun l nl => ?_⟩
    refine ⟨pen, ca, l, _, B + 1, rfl, p1.same (same_new nl), by omega, upd_same, p1.off nl, by show 0 < 4; decide, by show 4 ≤ 1000; decide, fun v H2 b2 p2 hv => ?_⟩
    obtain ⟨bo, rfl, bo1, bo2⟩ : isBetw 1 366 v := by
      refine in_cons (betw (by omega)) (in_cons (betw (by decide)) (in_cons (betw (by decide)) (in_one (betw (by decide))))) v hv
    have bA := b1.trans ((Bt.same (same_new nl)).trans b2)
    refine ⟨_, rfl, _, rfl, _, _, rfl, rfl, pen, ca, _, B + 2, rfl, p2, by omega, by omega, by omega, fun r3 H3 b3 p3 r30 r31 => ?_⟩
    refine ⟨_, rfl, r3, bo, rfl, by omega, by omega, fun v4 H4 e4 f4 => ?_⟩
    have p4 := p3.same e4
    have bB := (bA.trans b3).trans (.same e4)
    have g4 : isRest K H4 v4 := rest_of f4 (by omega) (by omega) (by omega) (by omega)
    refine ⟨_, rfl, by show 2 ≤ sizeLine; decide, fun t1 n1 => ?_⟩
    have s1 := same_new (o := .tup [.int 0, .int 1]) n1
    have f1 : isRest K (upd H4 t1 (.tup [.int 0, .int 1])) (.ref t1) := rest_of (fr_lit (.of upd_same) (by decide) (by decide)) (by decide) (by decide) (by decide) (by decide)
    generalize upd H4 t1 (.tup [.int 0, .int 1]) = H5 at s1 f1 ⊢
    refine ⟨by show 2 ≤ sizeLine; decide, fun t2 n2 => ?_⟩
    have s2 := same_new (o := .tup [.int 1, .int 1]) n2
    have f2 : isRest K (upd H5 t2 (.tup [.int 1, .int 1])) (.ref t2) := rest_of (fr_lit (.of upd_same) (by decide) (by decide)) (by decide) (by decide) (by decide) (by decide)
    generalize upd H5 t2 (.tup [.int 1, .int 1]) = H6 at s2 f2 ⊢
    refine ⟨by show 2 ≤ sizeLine; decide, fun t3 n3 => ?_⟩
    have s3 := same_new (o := .tup [.int 1, .int 2]) n3
    have f3 : isRest K (upd H6 t3 (.tup [.int 1, .int 2])) (.ref t3) := rest_of (fr_lit (.of upd_same) (by decide) (by decide)) (by decide) (by decide) (by decide) (by decide)
    generalize upd H6 t3 (.tup [.int 1, .int 2]) = H7 at s3 f3 ⊢
    have e7 := (s1.trans s2).trans s3
    refine ⟨_, rfl, _, rfl, by show 5 ≤ sizeLine; decide, fun l2 nl2 => ?_⟩
    have s8 := same_new (o := .lst [.ref t1, .ref t2, .ref t3, v4, v4]) nl2
    refine ⟨pen, ca, l2, _, B + 3, rfl, p4.same (e7.trans s8), by omega, upd_same, (p4.same e7).off nl2, by show 0 < 5; decide, by show 5 ≤ 1000; decide, fun v H8 b8 p8 hv => ?_⟩
    refine kk v H8 (bB.trans ((Bt.same (e7.trans s8)).trans b8)) p8 (isRest.tk b8.tk ?_)
    exact in_cons (f1.tk (.same ((s2.trans s3).trans s8))) (in_cons (f2.tk (.same (s3.trans s8))) (in_cons (f3.tk (.same s8)) (in_cons (g4.tk (.same (e7.trans s8))) (in_one (g4.tk (.same (e7.trans s8))))))) v hv
theorem scDrawV : FnScope ["_law_pen", "_law_some"] ["_law_pen"] (defScope (topS 42)) := ⟨rfl, rfl, rfl, by decide +kernel, rfl, by decide +kernel, by decide +kernel⟩
theorem d_drawFactor (T : Tx P K mg base) : Def P w K mg base "_law_draw_factor_above" 4 ["_law_pen"] (spDraw 3 (isFac K)) := by
  obtain ⟨f, fd, hm, F⟩ := T.lDrawFactor
  refine ⟨f, fd, hm, F.kp, F.binds (ps := ["_law_pen"]) fun _ _ _ _ _ _ us hl => match us, hl with | [_], _ => rfl, F.ok scDrawV (fun vs H Q E h => ?_) (fun cdv A outer s H vs Q E hr h => ?_)⟩
  · obtain ⟨pen, ca, B, rfl, _⟩ := h
    rfl
  · obtain ⟨pen, ca, B, rfl, hp, hB, kk⟩ := h
    refine ⟨_, pss_cons (ps_set (i := 1) scDrawV.nd rfl (.inl rfl) (pe_lst (pa_cons (pe_tup (pa_cons pe_int (pa_cons pe_int pa_nil))) (pa_cons (pe_tup (pa_cons pe_int (pa_cons pe_int pa_nil))) (pa_cons (pe_tup (pa_cons pe_int (pa_cons pe_int pa_nil)))
          (pa_cons (pe_tup (pa_cons pe_int (pa_cons pe_int pa_nil))) (pa_cons (pe_tup (pa_cons pe_int (pa_cons pe_int pa_nil))) (pa_cons (pe_def (d_lfrac T) (hr.mono (by decide))
            (pa_cons (pe_op op_add pe_int (pe_def (d_take T) (hr.mono (by decide)) (pa_cons (pv 0) (pa_cons pe_int pa_nil)))) (pa_cons (pe_op op_add pe_int (pe_def (d_take T) (hr.mono (by decide)) (pa_cons (pv 0) (pa_cons pe_int pa_nil)))) pa_nil))) pa_nil))))))))
      (pss_one (ps_ret (pe_def (d_oneOf T) (hr.mono (by decide)) (pa_cons (pv 0) (pa_cons (pv 1) pa_nil))))), ?_⟩
    refine ⟨by show 2 ≤ sizeLine; decide, fun t1 n1 => ?_⟩
    have s1 := same_new (o := .tup [.int 1, .int 1]) n1
    have f1 : isFac K (upd H t1 (.tup [.int 1, .int 1])) (.ref t1) := fac_of (fr_lit (.of upd_same) (by decide) (by decide)) (by decide) (by decide) (by decide) (by decide)
    generalize upd H t1 (.tup [.int 1, .int 1]) = H1 at s1 f1 ⊢
    refine ⟨by show 2 ≤ sizeLine; decide, fun t2 n2 => ?_⟩
    have s2 := same_new (o := .tup [.int 20, .int 21]) n2
    have f2 : isFac K (upd H1 t2 (.tup [.int 20, .int 21])) (.ref t2) := fac_of (fr_lit (.of upd_same) (by decide) (by decide)) (by decide) (by decide) (by decide) (by decide)
    generalize upd H1 t2 (.tup [.int 20, .int 21]) = H2 at s2 f2 ⊢
    refine ⟨by show 2 ≤ sizeLine; decide, fun t3 n3 => ?_⟩
    have s3 := same_new (o := .tup [.int 1, .int 2]) n3
    have f3 : isFac K (upd H2 t3 (.tup [.int 1, .int 2])) (.ref t3) := fac_of (fr_lit (.of upd_same) (by decide) (by decide)) (by decide) (by decide) (by decide) (by decide)
    generalize upd H2 t3 (.tup [.int 1, .int 2]) = H3 at s3 f3 ⊢
    refine ⟨by show 2 ≤ sizeLine; decide, fun t4 n4 => ?_⟩
    have s4 := same_new (o := .tup [.int 2, .int 1]) n4
    have f4 : isFac K (upd H3 t4 (.tup [.int 2, .int 1])) (.ref t4) := fac_of (fr_lit (.of upd_same) (by decide) (by decide)) (by decide) (by decide) (by decide) (by decide)
    generalize upd H3 t4 (.tup [.int 2, .int 1]) = H4 at s4 f4 ⊢
    refine ⟨by show 2 ≤ sizeLine; decide, fun t5 n5 => ?_⟩
    have s5 := same_new (o := .tup [.int 100, .int 101]) n5
    have f5 : isFac K (upd H4 t5 (.tup [.int 100, .int 101])) (.ref t5) := fac_of (fr_lit (.of upd_same) (by decide) (by decide)) (by decide) (by decide) (by decide) (by decide)
    generalize upd H4 t5 (.tup [.int 100, .int 101]) = H5 at s5 f5 ⊢
    have e5 := (((s1.trans s2).trans s3).trans s4).trans s5
    refine ⟨_, rfl, pen, ca, 99, B, rfl, hp.same e5, by omega, by decide, by decide, fun r6 H6 b6 p6 r60 r61 => ?_⟩
    refine ⟨_, _, rfl, rfl, _, rfl, pen, ca, 99, B + 1, rfl, p6, by omega, by decide, by decide, fun r7 H7 b7 p7 r70 r71 => ?_⟩
    refine ⟨_, _, rfl, rfl, _, _, rfl, by omega, by omega, fun v8 H8 e8 f8 => ?_⟩
    have g8 : isFac K H8 v8 := fac_of f8 (by omega) (by omega) (by omega) (by omega)
    refine ⟨by show 6 ≤ sizeLine; decide, fun l nl => ?_⟩
    have s9 := same_new (o := .lst [.ref t1, .ref t2, .ref t3, .ref t4, .ref t5, v8]) nl
    have p8 := p7.same e8
    have k := (b6.tk.trans b7.tk).trans (.same (e8.trans s9))
    refine ⟨_, rfl, _, rfl, pen, ca, l, _, B + 2, rfl, p8.same s9, by omega, upd_same, p8.off nl, by show 0 < 6; decide, by show 6 ≤ 1000; decide, fun v H9 b9 p9 hv => ?_⟩
    refine kk v H9 (((Bt.same e5).trans b6).trans ((b7.trans (.same (e8.trans s9))).trans b9)) p9 (isFac.tk b9.tk ?_)
    exact in_cons ((f1.tk (.same (((s2.trans s3).trans s4).trans s5))).tk k) (in_cons ((f2.tk (.same ((s3.trans s4).trans s5))).tk k) (in_cons ((f3.tk (.same (s4.trans s5))).tk k) (in_cons ((f4.tk (.same s5)).tk k) (in_cons (f5.tk k) (in_one (g8.tk (.same s9))))))) v hv
end
end BR
end
section
set_option Elab.async false
set_option linter.all false
set_option maxRecDepth 100000
set_option maxHeartbeats 1000000
namespace BR
open PySem PySem.Spec PyProof.Rows L2
theorem cut_ints (ns : List Int) : ∃ zs : List Int, cutV (ns.map V.int) (some 12) (some 63) = zs.map V.int ∧ (zs = [] ∨ 12 < ns.length) ∧ zs.length ≤ ns.length := by
  refine ⟨(ns.drop (HT.sIx (ns.map V.int).length 0 (some 12))).take (HT.sIx (ns.map V.int).length (ns.map V.int).length (some 63) - HT.sIx (ns.map V.int).length 0 (some 12)), ?_, ?_, ?_⟩
  · unfold cutV
    rw [List.map_take, List.map_drop]
  · rw [show (some (12 : Int)) = some ((12 : Nat) : Int) from rfl, HT.sIx_nat, List.length_map]
    by_cases h : 12 < ns.length
    · exact .inr h
    · left
      rw [Nat.min_eq_right (by omega), List.drop_length, List.take_nil]
  · rw [List.length_take, List.length_drop]
    omega
def spOpen (K : PySem.W.Frag) : Sp := fun vs H Q _ => ∃ (a : Addr) (ns : List Int), vs = [.ref a] ∧ SqL K H a (ns.map V.int) ∧ ns.length ≤ 63 ∧ ∀ pen ca H', Same H H' → H pen = none → Pen H' pen ca 0 → Q (.ref pen) H'
section
variable {P : Program} {w : World} {K : PySem.W.Frag} {mg : Str → Option Value} {base : Heap}
abbrev nOpen : List Str := ["_law_script", "_law_cells", "_law_k", "_law_cell"]
theorem scOpen : FnScope nOpen ["_law_script"] (defScope (topS 32)) := ⟨rfl, rfl, rfl, by decide +kernel, rfl, by decide +kernel, by decide +kernel⟩
theorem d_open (T : Tx P K mg base) : Def P w K mg base "_law_open" 1 ["_law_script"] (spOpen K) := by
  obtain ⟨f, fd, hm, F⟩ := T.lOpen
  refine ⟨f, fd, hm, F.kp, F.binds (ps := ["_law_script"]) fun _ _ _ _ _ _ us hl => match us, hl with | [_], _ => rfl, F.ok scOpen (fun vs H Q E h => ?_) (fun cdv A outer s H vs Q E hr h => ?_)⟩
  · obtain ⟨a, ns, rfl, _⟩ := h
    rfl
  · obtain ⟨a, ns, rfl, hS, hl, kk⟩ := h
    refine ⟨_, pss_cons (ps_set (i := 1) scOpen.nd rfl (.inl rfl) (pe_callTy call_list_of (by rfl) T.bList PyProof.Rows.boot_list (pa_cons (pe_slice sl_list (pv 0) po_none (po_some pe_int)) pa_nil)))
      (pss_cons (ps_for PassesOwn.never rfl (pi_enum (by rfl) T.bEnumerate (pa_cons (pe_slice sl_list (pv 0) (po_some pe_int) (po_some pe_int)) pa_nil)) (pg_tup rfl (pgs_cons (pg_name (i := 2) scOpen.nd rfl (.inl rfl)) (pgs_cons (pg_name (i := 3) scOpen.nd rfl (.inl rfl)) pgs_nil)))
        (pss_one (ps_asg (pe_op op_add (pe_ix ix_list (pv 1) (pe_op op_mod (pv 2) pe_int) fun _ _ => rfl) (pv 3)) (pg_sub (pv 1) (pe_op op_mod (pv 2) pe_int) set_list))))
      (pss_one (ps_ret (pe_lst (pa_cons (pv 1) (pa_cons pe_int (pa_cons pe_int pa_nil))))))), ?_⟩
    refine ⟨_, rfl, 12, rfl, a, _, rfl, hS, fun q nq => ⟨q, _, rfl, .inl (.of upd_same), ?_⟩⟩
    have ec : cutV (ns.map V.int) none (some 12) = (ns.take 12).map V.int := (cut_to _ 12).trans (List.map_take ..).symm
    rw [ec]
    intro cr nc
    have s1 := same_new (o := .lst ((ns.take 12).map V.int)) nq
    have s2 := same_new (o := .lst ((ns.take 12).map V.int)) nc
    have ncr : H cr = none := s1.free nc
    have e2 := s1.trans s2
    have hcr : (upd (upd H q (.lst ((ns.take 12).map V.int))) cr (.lst ((ns.take 12).map V.int))) cr = some (.lst ((ns.take 12).map V.int)) := upd_same
    generalize upd (upd H q (.lst ((ns.take 12).map V.int))) cr (.lst ((ns.take 12).map V.int)) = H2 at e2 hcr ⊢
    refine ⟨_, rfl, 12, rfl, 63, rfl, a, _, rfl, e2.seq hS, fun p np => ?_⟩
    obtain ⟨zs, ez, hz, lz⟩ := cut_ints ns
    rw [ez]
    have pcr : p ≠ cr := fun e => by rw [e, hcr] at np; cases np
    have e3 := e2.trans (same_new (o := .lst (zs.map V.int)) np)
    have hcr3 := (same_new (o := .lst (zs.map V.int)) np) _ _ hcr
    refine ⟨p, _, rfl, .of upd_same, ?_⟩
    have hp3 : (upd H2 p (.lst (zs.map V.int))) p = some (.lst (zs.map V.int)) := upd_same
    generalize upd H2 p (.lst (zs.map V.int)) = H3 at e3 hcr3 hp3 ⊢
    refine for_it (walk_enum (xs := zs.map V.int)) (fun i σ H' => ∃ y2 y3 cs, σ = [some (.ref a), some (.ref cr), y2, y3] ∧ Same H H' ∧ H' p = some (.lst (zs.map V.int)) ∧ H' cr = some (.lst (cs.map V.int)) ∧ cs.length = min 12 ns.length)
      ⟨none, none, ns.take 12, rfl, e3, hp3, hcr3, List.length_take ..⟩ (fun i σ H' _ ⟨_, _, _, _, _, h, _⟩ => .of h) ?_ ?_
    · rintro i v σ H4 H5 hi ⟨y2, y3, cs, rfl, e4, hp4, hcr4, hcl⟩ ⟨t, x, y, rfl, nt, rfl, hx, hy⟩
      have ex : V.int ((i : Nat) : Int) = x := Option.some.inj hx
      subst ex
      obtain ⟨z, rfl⟩ : ∃ z, y = V.int z := by
        have hy : (zs.map V.int)[i]? = some y := hy
        rw [List.getElem?_map] at hy
        cases e : zs[i]? with
        | none => rw [e] at hy; cases hy
        | some z => rw [e] at hy; exact ⟨z, (Option.some.inj hy).symm⟩
      have big : 12 < ns.length := by
        rcases hz with h | h
        · rw [h] at hi
          exact absurd hi (Nat.not_lt_zero _)
        · exact h
      obtain ⟨m, em, hm⟩ := mod_nat ((i : Nat) : Int) (n := 12) (by decide)
      have em : ((i : Nat) : Int) % 12 = (m : Int) := em
      have hm2 : m < cs.length := by omega
      have s5 := same_new (o := .tup [.int ((i : Nat) : Int), .int z]) nt
      have hcr5 := s5 _ _ hcr4
      have hix : atI (cs.map V.int) (((i : Nat) : Int) % 12) = some (.int cs[m]) := by
        rw [em]
        exact atI_nat (by rw [List.getElem?_map, List.getElem?_eq_getElem hm2]; rfl)
      refine ⟨t, _, rfl, .of upd_same, rfl, _, _, rfl, _, _, rfl, rfl, ?_⟩
      refine ⟨_, rfl, _, rfl, _, _, rfl, rfl, (show (0 : Int) < 12 by decide), cr, _, _, _, rfl, rfl, .of hcr5, hix, _, rfl, _, _, rfl, rfl, _, rfl, _, rfl, _, _, rfl, rfl, (show (0 : Int) < 12 by decide), cr, _, _, m, rfl, rfl, hcr5, ?_, ?_⟩
      · show ixN (cs.map V.int).length (((i : Nat) : Int) % 12) = some m
        rw [em]
        exact ixN_nat (by rw [List.length_map]; exact hm2)
      · refine ⟨_, _, cs.set m (cs[m] + z), rfl, same_put ncr (e4.trans s5), ?_, ?_, by rw [List.length_set]; exact hcl⟩
        · rw [upd_ne pcr]
          exact s5 _ _ hp4
        · rw [upd_same, List.map_set]
    · rintro σ H4 ⟨y2, y3, cs, rfl, e4, hp4, hcr4, hcl⟩
      refine ⟨_, rfl, by show 3 ≤ sizeLine; decide, fun pen npen => ?_⟩
      have ne : cr ≠ pen := fun e => by rw [← e, hcr4] at npen; cases npen
      exact kk pen cr _ (e4.trans (same_new npen)) (e4.free npen) ⟨0, 0, cs, upd_same, by rw [upd_ne ne]; exact hcr4, by omega, Nat.le_refl _, ne⟩
end
end BR
end
section
set_option Elab.async false
set_option linter.all false
set_option maxRecDepth 100000
set_option maxHeartbeats 1000000
namespace BR
open PySem PySem.Spec PyProof.Rows L2
theorem dotP_step : ∀ {a x : List Rat} {i : Nat} {p q : Rat}, a[i]? = some p → x[i]? = some q → dotP (a.take (i + 1)) (x.take (i + 1)) = dotP (a.take i) (x.take i) + p * q
  | [], _, _, _, _, h, _ => by simp at h
  | _ :: _, [], _, _, _, _, h => by simp at h
  | a :: as, x :: xs, 0, p, q, h1, h2 => by
    cases Option.some.inj h1
    cases Option.some.inj h2
    show a * x + dotP (as.take 0) (xs.take 0) = 0 + a * x
    rw [List.take_zero, List.take_zero]
    show a * x + 0 = 0 + a * x
    grind
  | a :: as, x :: xs, i + 1, p, q, h1, h2 => by
    have ih := dotP_step (a := as) (x := xs) (i := i) (p := p) (q := q) (by simpa using h1) (by simpa using h2)
    show a * x + dotP (as.take (i + 1)) (xs.take (i + 1)) = a * x + dotP (as.take i) (xs.take i) + p * q
    rw [ih]
    grind
theorem dotP_all (a x : List Rat) {n : Nat} (h1 : a.length = n) (h2 : x.length = n) : dotP (a.take n) (x.take n) = dotP a x := by
  rw [← h1, List.take_length, h1, ← h2, List.take_length]
theorem dotP_take0 (a x : List Rat) : dotP (a.take 0) (x.take 0) = 0 := by
  rw [List.take_zero, List.take_zero]
  rfl
theorem zw_at2 {f : List Rat → Rat → Rat} {L : List (List Rat)} {ws : List Rat} {i : Nat} {r : List Rat} {w : Rat} (h1 : L[i]? = some r) (h2 : ws[i]? = some w) : (List.zipWith f L ws)[i]? = some (f r w) := by
  rw [List.getElem?_zipWith, h1, h2]
theorem rows_get {K : PySem.W.Frag} {H : Hp} {vs : List V} {L : List (List Rat)} {i : Nat} {u : V} (hl : vs.length = L.length) (f : ∀ (i : Nat) (u : V) (r : List Rat), vs[i]? = some u → L[i]? = some r → TupF K H u r) (h : vs[i]? = some u) : ∃ r, L[i]? = some r ∧ TupF K H u r := by
  have hi := (List.getElem?_eq_some_iff.mp h).1
  exact ⟨L[i]'(hl ▸ hi), List.getElem?_eq_getElem (hl ▸ hi), f i u _ h (List.getElem?_eq_getElem (hl ▸ hi))⟩
def spSums (K : PySem.W.Frag) : Sp := fun vs H Q _ => ∃ x1 x2 x3 x4 L ws v xs, vs = [x1, x2, x3, x4] ∧ RowsF K H x1 L ∧ TupF K H x2 ws ∧ Fr K H x3 v ∧ TupF K H x4 xs ∧ BookOk v L ws ∧ xs.length = L.length ∧ SzR 38480 xs ∧
  ∀ p H', Same H H' → LstF K H' p [dotP (wsF L ws v) xs, dotP (ssF L ws v) xs] → Q (.ref p) H'
section
variable {P : Program} {w : World} {K : PySem.W.Frag} {mg : Str → Option Value} {base : Heap}
abbrev nSums : List Str := ["_law_some", "_law_rests", "_law_v", "_law_amounts", "_law_total", "_law_rise", "_law_row", "_law_rest", "_law_amount"]
theorem scSums : FnScope nSums ["_law_some", "_law_rests", "_law_v", "_law_amounts"] (defScope (topS 43)) := ⟨rfl, rfl, rfl, by decide +kernel, rfl, by decide +kernel, by decide +kernel⟩
theorem d_sums (T : Tx P K mg base) : Def P w K mg base "_law_sums" 45 ["_law_some", "_law_rests", "_law_v", "_law_amounts"] (spSums K) := by
  obtain ⟨f, fd, hm, F⟩ := T.lSums
  refine ⟨f, fd, hm, F.kp, F.binds (ps := ["_law_some", "_law_rests", "_law_v", "_law_amounts"]) fun _ _ _ _ _ _ us hl => match us, hl with | [_, _, _, _], _ => rfl, F.ok scSums (fun vs H Q E h => ?_) (fun cdv A outer s H vs Q E hr h => ?_)⟩
  · obtain ⟨x1, x2, x3, x4, L, ws, v, xs, rfl, _⟩ := h
    rfl
  · obtain ⟨x1, x2, x3, x4, L, ws, v, xs, rfl, h1, h2, h3, h4, bk, hx, sx, kk⟩ := h
    refine ⟨_, pss_cons (ps_asg (pe_tup (pa_cons (pe_tup (pa_cons pe_int (pa_cons pe_int pa_nil))) (pa_cons (pe_tup (pa_cons pe_int (pa_cons pe_int pa_nil))) pa_nil))) (pg_tup rfl (pgs_cons (pg_name (i := 4) scSums.nd rfl (.inl rfl)) (pgs_cons (pg_name (i := 5) scSums.nd rfl (.inl rfl)) pgs_nil))))
      (pss_cons (ps_for PassesOwn.never rfl (pi_zip3 T.bZip (pa_cons (pv 0) (pa_cons (pv 1) (pa_cons (pv 3) pa_nil)))) (pg_tup rfl (pgs_cons (pg_name (i := 6) scSums.nd rfl (.inl rfl)) (pgs_cons (pg_name (i := 7) scSums.nd rfl (.inl rfl)) (pgs_cons (pg_name (i := 8) scSums.nd rfl (.inl rfl)) pgs_nil))))
        (pss_cons (ps_set (i := 4) scSums.nd rfl (.inl rfl) (pe_def (d_plus T) (hr.mono (by decide)) (pa_cons (pv 4) (pa_cons (pe_def (d_times T) (hr.mono (by decide)) (pa_cons (pv 8)
            (pa_cons (pe_def (d_worth T) (hr.mono (by decide)) (pa_cons (pv 6) (pa_cons (pv 7) (pa_cons (pv 2) pa_nil)))) pa_nil))) pa_nil))))
        (pss_one (ps_set (i := 5) scSums.nd rfl (.inl rfl) (pe_def (d_plus T) (hr.mono (by decide)) (pa_cons (pv 5) (pa_cons (pe_def (d_times T) (hr.mono (by decide)) (pa_cons (pv 8)
            (pa_cons (pe_def (d_slope T) (hr.mono (by decide)) (pa_cons (pv 6) (pa_cons (pv 7) (pa_cons (pv 2) pa_nil)))) pa_nil))) pa_nil)))))))
      (pss_one (ps_ret (pe_lst (pa_cons (pv 4) (pa_cons (pv 5) pa_nil)))))), ?_⟩
    obtain ⟨as, avs, rfl, hS, al, af⟩ := id h1
    obtain ⟨ar, rvs, rfl, hR, rf⟩ := id h2
    obtain ⟨ax, xvs, rfl, hX, xf⟩ := id h4
    have len2 := bk.len2
    have bl := bk.len
    have rl := rf.len
    have xl := xf.len
    refine ⟨by show 2 ≤ sizeLine; decide, fun t1 n1 => ?_⟩
    have s1 := same_new (o := .tup [.int 0, .int 1]) n1
    have f1 : Fr K (upd H t1 (.tup [.int 0, .int 1])) (.ref t1) 0 := ⟨t1, rfl, .of upd_same⟩
    generalize upd H t1 (.tup [.int 0, .int 1]) = H1 at s1 f1 ⊢
    refine ⟨by show 2 ≤ sizeLine; decide, fun t2 n2 => ?_⟩
    have s2 := same_new (o := .tup [.int 0, .int 1]) n2
    have f2 : Fr K (upd H1 t2 (.tup [.int 0, .int 1])) (.ref t2) 0 := ⟨t2, rfl, .of upd_same⟩
    generalize upd H1 t2 (.tup [.int 0, .int 1]) = H2 at s2 f2 ⊢
    refine ⟨by show 2 ≤ sizeLine; decide, fun t3 n3 => ⟨t3, _, rfl, .of upd_same, rfl, _, _, rfl, _, _, rfl, rfl, ?_⟩⟩
    have s3 := same_new (o := .tup [.ref t1, .ref t2]) n3
    generalize upd H2 t3 (.tup [.ref t1, .ref t2]) = H3 at s3 ⊢
    have e3 := (s1.trans s2).trans s3
    refine ⟨_, rfl, _, rfl, _, rfl, as, ar, ax, avs, rvs, xvs, rfl, sqT_tk (.same e3) hS, sqT_tk (.same e3) hR, sqT_tk (.same e3) hX, ?_⟩
    have lw : (wsF L ws v).length = L.length := zw_len bl
    have lss : (ssF L ws v).length = L.length := zw_len bl
    refine for_it (walk_zip3 (xs := avs) (ys := rvs) (zs := xvs) (by omega) (by omega)) (fun i σ H' => ∃ y4 y5 y6 y7 y8, σ = [some (.ref as), some (.ref ar), some x3, some (.ref ax), some y4, some y5, y6, y7, y8] ∧ Same H H' ∧
        Fr K H' y4 (dotP ((wsF L ws v).take i) (xs.take i)) ∧ Fr K H' y5 (dotP ((ssF L ws v).take i) (xs.take i)) ∧ Sz (39700 * i + 1) (dotP ((wsF L ws v).take i) (xs.take i)) ∧ Sz (39700 * i + 1) (dotP ((ssF L ws v).take i) (xs.take i)))
      ⟨.ref t1, .ref t2, none, none, none, rfl, e3, by rw [dotP_take0]; exact f1.same (s2.trans s3), by rw [dotP_take0]; exact f2.same s3, by rw [dotP_take0]; exact Sz.zero (Nat.le_refl _), by rw [dotP_take0]; exact Sz.zero (Nat.le_refl _)⟩
      (fun i σ H' _ ⟨_, _, _, _, _, _, e, _⟩ => ⟨sqT_tk (.same e) hS, sqT_tk (.same e) hR, sqT_tk (.same e) hX⟩) ?_ ?_
    · rintro i v4 σ H4 H5 hi ⟨y4, y5, y6, y7, y8, rfl, e4, g4, g5, z4, z5⟩ ⟨t, x, y, z, rfl, nt, rfl, hx6, hy7, hz8⟩
      obtain ⟨r, hr1, fr⟩ := rows_get al af hx6
      obtain ⟨w', hw1, fw⟩ := rf.getV hy7
      obtain ⟨q, hq1, fq⟩ := xf.getV hz8
      obtain ⟨o, vw⟩ := bk.ok i r w' hr1 hw1
      have s5 := same_new (o := .tup [x, y, z]) nt
      have e5 := e4.trans s5
      have d1 := dotP_step (zw_at2 (f := fun r w => worthF r w v) hr1 hw1) hq1
      have d2 := dotP_step (zw_at2 (f := fun r w => slopeF r w v) hr1 hw1) hq1
      have sq := sx q (List.mem_of_getElem? hq1)
      have sw := worth_sz vw o
      have ss := slope_sz vw o
      have z6 : Sz (39700 * (i + 1) + 1) (dotP ((wsF L ws v).take (i + 1)) (xs.take (i + 1))) := by
        rw [show dotP ((wsF L ws v).take (i + 1)) (xs.take (i + 1)) = _ from d1]
        exact (z4.add (sw.mul sq)).mono (by omega)
      have z7 : Sz (39700 * (i + 1) + 1) (dotP ((ssF L ws v).take (i + 1)) (xs.take (i + 1))) := by
        rw [show dotP ((ssF L ws v).take (i + 1)) (xs.take (i + 1)) = _ from d2]
        exact (z5.add (ss.mul sq)).mono (by omega)
      have hi2 : i < 10 := by omega
      refine ⟨t, _, rfl, .of upd_same, rfl, _, _, rfl, _, _, rfl, _, _, rfl, rfl, ?_⟩
      refine ⟨_, rfl, _, rfl, _, rfl, _, rfl, _, rfl, _, _, _, r, w', v, rfl, fr.same e5, fw.same e5, h3.same e5, o, vw, fun u6 H6 e6 f6 => ?_⟩
      refine ⟨_, _, q, _, rfl, fq.same (e5.trans e6), f6, sz_small sq (by decide), sz_small sw (by decide), trivial, fun u7 H7 e7 f7 => ?_⟩
      refine ⟨_, _, _, _, rfl, g4.same ((s5.trans e6).trans e7), f7, sz_small z4 (by omega), sz_small (sq.mul sw) (by decide), trivial, fun u8 H8 e8 f8 => ?_⟩
      have e58 := (e6.trans e7).trans e8
      refine ⟨_, rfl, _, rfl, _, rfl, _, rfl, _, rfl, _, _, _, r, w', v, rfl, fr.same (e5.trans e58), fw.same (e5.trans e58), h3.same (e5.trans e58), o, vw, fun u9 H9 e9 f9 => ?_⟩
      refine ⟨_, _, q, _, rfl, fq.same ((e5.trans e58).trans e9), f9, sz_small sq (by decide), sz_small ss (by decide), trivial, fun u10 H10 e10 f10 => ?_⟩
      refine ⟨_, _, _, _, rfl, g5.same (((s5.trans e58).trans e9).trans e10), f10, sz_small z5 (by omega), sz_small (sq.mul ss) (by decide), trivial, fun u11 H11 e11 f11 => ?_⟩
      refine ⟨_, _, _, _, _, rfl, (((e5.trans e58).trans e9).trans e10).trans e11, ?_, ?_, z6, z7⟩
      · rw [show dotP ((wsF L ws v).take (i + 1)) (xs.take (i + 1)) = _ from d1, Rat.mul_comm (worthF r w' v)]
        exact f8.same ((e9.trans e10).trans e11)
      · rw [show dotP ((ssF L ws v).take (i + 1)) (xs.take (i + 1)) = _ from d2, Rat.mul_comm (slopeF r w' v)]
        exact f11
    · rintro σ H4 ⟨y4, y5, y6, y7, y8, rfl, e4, g4, g5, z4, z5⟩
      rw [dotP_all _ _ (by omega) (by omega)] at g4 g5
      refine ⟨_, rfl, _, rfl, by show 2 ≤ sizeLine; decide, fun p np => kk p _ (e4.trans (same_new np)) ⟨_, upd_same, frs_two (g4.same (same_new np)) (g5.same (same_new np))⟩⟩
end
end BR
end
section
set_option Elab.async false
set_option linter.all false
set_option maxRecDepth 100000
set_option maxHeartbeats 1000000
namespace BR
open PySem PySem.Spec PyProof.Rows L2
theorem walk_zipT {K : PySem.W.Frag} {a b : Addr} {xs ys : List V} (hn : xs.length = ys.length) : Walk (RZ.ItzT K a b) xs.length (fun H => SqT K H a xs ∧ SqT K H b ys) (YPair (fun i => xs[i]?) (fun i => ys[i]?)) := by
  refine ⟨fun i H hi q => ⟨xs, ys, xs[i], ys[i]'(hn ▸ hi), q.1, q.2, List.getElem?_eq_getElem hi, List.getElem?_eq_getElem (hn ▸ hi)⟩, fun H q => ⟨xs, ys, q.1, q.2, .inl (Nat.le_refl _)⟩, fun i H v H' hi q y => ?_⟩
  obtain ⟨T, x, y, e1, e2, e3, f1, f2⟩ := y
  exact ⟨T, x, y, e1, e2, e3, f1 xs q.1, f2 ys q.2⟩
/-! ### the plain law -/
theorem dotP_mulR (c : Rat) : ∀ a x : List Rat, dotP a (x.map (c * ·)) = c * dotP a x
  | [], x => by
    show (0 : Rat) = c * 0
    rw [Rat.mul_zero]
  | _ :: _, [] => by
    show (0 : Rat) = c * 0
    rw [Rat.mul_zero]
  | a :: as, x :: xs => by
    show a * (c * x) + dotP as (xs.map (c * ·)) = c * (a * x + dotP as xs)
    rw [dotP_mulR c as xs]
    grind
theorem dotP_plus : ∀ (a x y : List Rat), x.length = y.length → dotP a (List.zipWith (· + ·) x y) = dotP a x + dotP a y
  | [], x, y, _ => by
    show (0 : Rat) = 0 + 0
    rw [Rat.add_zero]
  | _ :: _, [], [], _ => by
    show (0 : Rat) = 0 + 0
    rw [Rat.add_zero]
  | _ :: _, [], _ :: _, h => by cases h
  | _ :: _, _ :: _, [], h => by cases h
  | a :: as, x :: xs, y :: ys, h => by
    show a * (x + y) + dotP as (List.zipWith (· + ·) xs ys) = a * x + dotP as xs + (a * y + dotP as ys)
    rw [dotP_plus as xs ys (Nat.succ.inj h)]
    grind
theorem dotP_last (a : List Rat) (g : Rat) : dotP (a ++ [g]) (List.replicate a.length 0 ++ [1]) = g := by
  rw [dotP_append, dotP_zeros, List.length_replicate, List.drop_left]
  show 0 + (g * 1 + 0) = g
  grind
structure Goals (v : Rat) (L : List (List Rat)) (ws : List Rat) (r : List Rat) (w : Rat) : Prop where
  bk : BookOk v L ws
  len3 : L.length ≤ 3
  ro : RowOk r
  vw : VW v w
section
variable {v : Rat} {L : List (List Rat)} {ws r : List Rat} {w : Rat}
theorem BookOk.alen (b : BookOk v L ws) : (wsF L ws v).length = L.length := zw_len b.len
theorem BookOk.blen (b : BookOk v L ws) : (ssF L ws v).length = L.length := zw_len b.len
theorem BookOk.ab (b : BookOk v L ws) : (ssF L ws v).length = (wsF L ws v).length := by rw [b.alen, b.blen]
theorem up1202 {l : List Rat} (h : SzR 1200 l) : SzR 1202 l := fun q hq => (h q hq).mono (by decide)
theorem Goals.sg (G : Goals v L ws r w) : Sz 1200 (worthF r w v) := (worth_sz G.vw G.ro).mono (by decide)
theorem Goals.sh (G : Goals v L ws r w) : Sz 1200 (slopeF r w v) := slope_sz G.vw G.ro
theorem sz_two : Sz 2 2 := ⟨by decide +kernel, by decide +kernel⟩
theorem sz_three : Sz 2 3 := ⟨by decide +kernel, by decide +kernel⟩
theorem sz2 {q : Rat} (h : Sz 1200 q) : Sz 1202 (2 * q) := (sz_two.mul h).mono (by decide)
theorem sz0 {q : Rat} (h : Sz 1200 q) : Sz 1202 q := h.mono (by decide)
/-- what a told hedge does -/
theorem BookOk.told (b : BookOk v L ws) {g h : Rat} (sg : Sz 1202 g) (sh : Sz 1202 h) {x : List Rat} (e : solF (wsF L ws v) (ssF L ws v) g h = some x) :
    x.length = L.length ∧ SzR 19237 x ∧ dotP (wsF L ws v) x = g ∧ dotP (ssF L ws v) x = h := by
  obtain ⟨h1, h2, h3, h4⟩ := sol_solves (S := 1202) (by decide) b.ab (up1202 b.sw) (up1202 b.ss) sg sh e
  exact ⟨h1.trans b.alen, h2, h3, h4⟩
theorem Goals.twice (G : Goals v L ws r w) {x : List Rat} (e : solF (wsF L ws v) (ssF L ws v) (worthF r w v) (slopeF r w v) = some x) : solF (wsF L ws v) (ssF L ws v) (2 * worthF r w v) (2 * slopeF r w v) ≠ none := by
  obtain ⟨h1, h2, h3, h4⟩ := G.bk.told (sz0 G.sg) (sz0 G.sh) e
  exact sol_some (S := 1202) (by decide) G.bk.ab (up1202 G.bk.sw) (up1202 G.bk.ss) (sz2 G.sg) (sz2 G.sh) (x := x.map (2 * ·)) (by rw [List.length_map, h1, G.bk.alen]) (by rw [dotP_mulR, h3]) (by rw [dotP_mulR, h4])
theorem Goals.wide (G : Goals v L ws r w) : BookOk v (L ++ [r]) (ws ++ [w]) := by
  have l1 := G.bk.len
  have l3 := G.len3
  refine ⟨by rw [List.length_append, List.length_append, l1]; rfl, by rw [List.length_append]; exact Nat.le_add_left .., by rw [List.length_append]; show L.length + 1 ≤ 10; omega, fun i q u h1 h2 => ?_⟩
  by_cases hi : i < L.length
  · rw [List.getElem?_append_left hi] at h1
    rw [List.getElem?_append_left (l1 ▸ hi)] at h2
    exact G.bk.ok i q u h1 h2
  · have hi2 := (List.getElem?_eq_some_iff.mp h1).1
    rw [List.length_append, List.length_singleton] at hi2
    have ei : i = L.length := by omega
    subst ei
    rw [List.getElem?_append_right (Nat.le_refl _), Nat.sub_self] at h1
    rw [← l1, List.getElem?_append_right (Nat.le_refl _), Nat.sub_self] at h2
    rw [← Option.some.inj h1, ← Option.some.inj h2]
    exact ⟨G.ro, G.vw⟩
theorem Goals.wider (G : Goals v L ws r w) : solF (wsF (L ++ [r]) (ws ++ [w]) v) (ssF (L ++ [r]) (ws ++ [w]) v) (worthF r w v) (slopeF r w v) ≠ none := by
  have e1 : wsF (L ++ [r]) (ws ++ [w]) v = wsF L ws v ++ [worthF r w v] := List.zipWith_append G.bk.len.symm
  have e2 : ssF (L ++ [r]) (ws ++ [w]) v = ssF L ws v ++ [slopeF r w v] := List.zipWith_append G.bk.len.symm
  have bw := G.wide
  refine sol_some (S := 1202) (by decide) bw.ab (up1202 bw.sw) (up1202 bw.ss) (sz0 G.sg) (sz0 G.sh) (x := List.replicate (wsF L ws v).length 0 ++ [1]) ?_ ?_ ?_
  · rw [e1, List.length_append, List.length_append, List.length_replicate]
    rfl
  · rw [e1, dotP_last]
  · rw [e2, ← G.bk.ab, dotP_last]
/-- the sum of two hedges -/
def bothF (x y : List Rat) : List Rat := List.zipWith (· + ·) x y
theorem both_sz {x y : List Rat} (hx : SzR 19237 x) (hy : SzR 19237 y) : SzR 38480 (bothF x y) := fun q hq => by
  obtain ⟨i, hi⟩ := List.mem_iff_getElem?.mp hq
  unfold bothF at hi
  rw [List.getElem?_zipWith] at hi
  cases e : x[i]? with
  | none => rw [e] at hi; cases hi
  | some p =>
    cases e2 : y[i]? with
    | none => rw [e, e2] at hi; cases hi
    | some u =>
      rw [e, e2] at hi
      rw [← Option.some.inj hi]
      exact ((hx p (List.mem_of_getElem? e)).add (hy u (List.mem_of_getElem? e2))).mono (by decide)
theorem both_at {x y : List Rat} {i : Nat} {q : Rat} (h : (bothF x y)[i]? = some q) : ∃ p u, x[i]? = some p ∧ y[i]? = some u ∧ q = p + u := by
  unfold bothF at h
  rw [List.getElem?_zipWith] at h
  cases e : x[i]? with
  | none => rw [e] at h; cases h
  | some p =>
    cases e2 : y[i]? with
    | none => rw [e, e2] at h; cases h
    | some u =>
      rw [e, e2] at h
      exact ⟨p, u, rfl, rfl, (Option.some.inj h).symm⟩
theorem both_len {x y : List Rat} (h : x.length = y.length) : (bothF x y).length = x.length := by
  unfold bothF
  rw [List.length_zipWith, ← h, Nat.min_self]
theorem both_dot {a x y : List Rat} {g : Rat} (h : x.length = y.length) (h1 : dotP a x = g) (h2 : dotP a y = 2 * g) : dotP a (bothF x y) = 3 * g := by
  unfold bothF
  rw [dotP_plus a x y h, h1, h2]
  grind
end
/-! ### lists of two fractions compared -/
def lstD (p q : Rat) : PyData := .list [frD p, frD q]
theorem lstD_shaped (p q : Rat) : SeqAt.shaped (lstD p q) = true := by
  unfold SeqAt.shaped lstD frD
  simp [PyData.canLay0, PyData.canLayAll0, PyData.depth, PyData.depthAll]
theorem lstD_eqv (p q : Rat) : PyData.eqv (lstD p q) (lstD p q) = true := by
  unfold lstD
  simp [PyData.eqv, PyData.eqvAll, frD_eqv]
theorem LstF.dp {K : PySem.W.Frag} {H : Hp} {a : Addr} {p q : Rat} (h : LstF K H a [p, q]) : Dp K H (.ref a) (lstD p q) := by
  obtain ⟨vs, s, f⟩ := h
  exact .lst (.of s) (frs_dpAll f)
end BR
end
section
set_option Elab.async false
set_option linter.all false
set_option maxRecDepth 100000
set_option maxHeartbeats 20000000
namespace BR
open PySem PySem.Spec PyProof.Rows L2
/-- what a turn has drawn and made, where it stands -/
structure Tn where
  pen : Addr
  ca : Addr
  ts : Addr
  tr : Addr
  lg : Addr
  lr : Addr
  ta : Addr
  tb : Addr
  xv : V
  vd : V
  xw : V
  x0 : V
  x1 : V
  B : Nat
  L : List (List Rat)
  ws : List Rat
  v : Rat
  r : List Rat
  w : Rat
abbrev Tn.a (t : Tn) : List Rat := wsF t.L t.ws t.v
abbrev Tn.b (t : Tn) : List Rat := ssF t.L t.ws t.v
abbrev Tn.g (t : Tn) : Rat := worthF t.r t.w t.v
abbrev Tn.h (t : Tn) : Rat := slopeF t.r t.w t.v
structure TF (K : PySem.W.Frag) (H : Hp) (t : Tn) : Prop where
  pn : Pen H t.pen t.ca t.B
  rows : RowsF K H (.ref t.ts) t.L
  rests : TupF K H (.ref t.tr) t.ws
  fv : Fr K H t.xv t.v
  fd : TupF K H t.vd t.r
  fw : Fr K H t.xw t.w
  gl : H t.lg = some (.lst [t.x0, t.x1])
  f0 : Fr K H t.x0 t.g
  f1 : Fr K H t.x1 t.h
  rr : H t.lr = some (.lst [.ref t.ta, .ref t.tb])
  fa : TupF K H (.ref t.ta) t.a
  fb : TupF K H (.ref t.tb) t.b
theorem TF.same {K : PySem.W.Frag} {H H' : Hp} {t : Tn} (e : Same H H') (h : TF K H t) : TF K H' t :=
  ⟨h.pn.same e, h.rows.same e, h.rests.same e, h.fv.same e, h.fd.same e, h.fw.same e, e _ _ h.gl, h.f0.same e, h.f1.same e, e _ _ h.rr, h.fa.same e, h.fb.same e⟩
theorem TF.gls {K : PySem.W.Frag} {H : Hp} {t : Tn} (h : TF K H t) : LstF K H t.lg [t.g, t.h] := ⟨_, h.gl, frs_two h.f0 h.f1⟩
theorem TF.sys {K : PySem.W.Frag} {H : Hp} {t : Tn} (h : TF K H t) (G : Goals t.v t.L t.ws t.r t.w) {p q : Addr} (hp : H p = some (.tup [.ref t.ta, .ref t.tb])) (hq : H q = some (.tup [t.x0, t.x1])) : SysOk K H p q t.a t.b t.g t.h :=
  ⟨⟨_, _, .of hp, h.fa, h.fb⟩, ⟨q, _, rfl, .of hq, frs_two h.f0 h.f1⟩, G.bk.ab, by rw [G.bk.alen]; exact G.bk.len1, by rw [G.bk.alen]; exact G.bk.len2, up1202 G.bk.sw, up1202 G.bk.ss, sz0 G.sg, sz0 G.sh⟩
theorem optT_dec {K : PySem.W.Frag} {H : Hp} {v : V} {o : Option (List Rat)} (h : OptT K H v o) : decide (v = .non) = o.isNone := by
  cases o with
  | none =>
    rw [show v = .non from h]
    rfl
  | some x =>
    obtain ⟨a, vs, rfl, _⟩ := h
    rfl
theorem vw_of {v w : Rat} (h1 : 0 < v) (h2 : Sz 10 v) (h3 : 0 ≤ w) (h4 : w ≤ 1) (h5 : Sz 10 w) : VW v w := ⟨h1, h3, h4, h2, h5⟩
theorem rows_snoc {K : PySem.W.Frag} {H : Hp} {p : Addr} {avs : List V} {vd : V} {L : List (List Rat)} {r : List Rat} (h : SqT K H p (avs ++ [vd])) (al : avs.length = L.length)
    (af : ∀ (i : Nat) (u : V) (q : List Rat), avs[i]? = some u → L[i]? = some q → TupF K H u q) (fd : TupF K H vd r) : RowsF K H (.ref p) (L ++ [r]) := by
  refine ⟨p, _, rfl, h, by rw [List.length_append, List.length_append, al]; rfl, fun i u q h1 h2 => ?_⟩
  by_cases hi : i < avs.length
  · rw [List.getElem?_append_left hi] at h1
    rw [List.getElem?_append_left (al ▸ hi)] at h2
    exact af i u q h1 h2
  · have hi2 := (List.getElem?_eq_some_iff.mp h1).1
    rw [List.length_append, List.length_singleton] at hi2
    have ei : i = avs.length := by omega
    subst ei
    rw [List.getElem?_append_right (Nat.le_refl _), Nat.sub_self] at h1
    rw [al, List.getElem?_append_right (Nat.le_refl _), Nat.sub_self] at h2
    rw [← Option.some.inj h1, ← Option.some.inj h2]
    exact fd
/-- the goals, times a constant -/
theorem due_ok {K : PySem.W.Frag} {H1 : Hp} {D lg : Addr} {x0 x1 : V} {g h c : Rat} {n : Int} {Qd : Hp → Prop} (hn : c.num = n) (hd : c.den = 1) (sc : Sz 2 c) (nD : H1 D = none) (gl : H1 lg = some (.lst [x0, x1])) (f0 : Fr K H1 x0 g) (f1 : Fr K H1 x1 h) (sg : Sz 1200 g) (sh : Sz 1200 h)
    (hq : ∀ H2, Same H1 H2 → LstF K H2 D [c * g, c * h] → Qd H2) {σ : L2.St} (hσ : σ.length = 22) :
    ∃ W : Nat → Nat → Hp → Prop, (∃ m, W 0 m (upd H1 D (.lst []))) ∧ ∀ i m H, W i m H →
      ((Itl K lg).stop i H ∧ Qd H) ∨ ((Itl K lg).go i H ∧ ∃ Nx : Hp → Prop, (∀ H', Nx H' → ∃ m', m' < m ∧ W (i + 1) m' H') ∧ ∀ x H', (Itl K lg).yld i H x H' → gName 19 x (wipe σ [19]) H' fun σ2 H2 => wipe σ2 [19] = wipe σ [19] ∧ tYes σ2 H2 fun b H3 =>
        if b = true then (tCall (spBin K anyQ (· * ·)) [] E0 (tCons (tTup (tCons (tC (.int n)) (tCons (tC (.int 1)) tNil))) (tCons (tVar 19) tNil))) σ2 H3 fun y H4 => ∃ acc, H4 D = some (.lst acc) ∧ acc.length < sizeLine ∧ Nx (upd H4 D (.lst (acc ++ [y]))) else Nx H3) := by
  match σ, hσ with
  | [y0, y1, y2, y3, y4, y5, y6, y7, y8, y9, y10, y11, y12, y13, y14, y15, y16, y17, y18, y19, y20, y21], _ =>
    refine lc_fr (K := K) (walk_list (xs := [x0, x1])) [c * g, c * h] rfl nD (show 2 ≤ 100000 by decide) (fun H' e => e.seq (.of gl)) ?_ hq
    rintro i x H2 H3 q hq e2 ⟨rfl, hx⟩ k hk
    have go : ∀ (u : Rat), Fr K H1 x u → Sz 1200 u → q = c * u → (fun σ2 H2 => wipe σ2 [19] = wipe [y0, y1, y2, y3, y4, y5, y6, y7, y8, y9, y10, y11, y12, y13, y14, y15, y16, y17, y18, y19, y20, y21] [19] ∧
        (tCall (spBin K anyQ (· * ·)) [] E0 (tCons (tTup (tCons (tC (.int n)) (tCons (tC (.int 1)) tNil))) (tCons (tVar 19) tNil))) σ2 H2 k) [y0, y1, y2, y3, y4, y5, y6, y7, y8, y9, y10, y11, y12, y13, y14, y15, y16, y17, y18, some x, y20, y21] H3 := by
      intro u fu su eq
      refine ⟨rfl, by show 2 ≤ sizeLine; decide, fun t nt => ?_⟩
      have s4 := same_new (o := .tup [.int n, .int 1]) nt
      have fc : Fr K (upd H3 t (.tup [.int n, .int 1])) (.ref t) c := ⟨t, rfl, by rw [hn, hd]; exact .of upd_same⟩
      exact ⟨_, rfl, _, _, c, u, rfl, fc, fu.same (e2.trans s4), sz_small sc (by decide), sz_small su (by decide), trivial, fun v H5 e5 f5 => hk v H5 (s4.trans e5) (eq ▸ f5)⟩
    match i, hq, hx with
    | 0, hq, hx =>
      cases Option.some.inj hx
      exact go g f0 sg (Option.some.inj hq).symm
    | 1, hq, hx =>
      cases Option.some.inj hx
      exact go h f1 sh (Option.some.inj hq).symm
    | i + 2, hq, _ => simp at hq
/-- two hedges put together -/
theorem both_ok {K : PySem.W.Frag} {H1 : Hp} {D a b : Addr} {xs ys : List V} {x y : List Rat} {Qd : Hp → Prop} (hx : SqT K H1 a xs) (hy : SqT K H1 b ys) (fx : Frs K H1 xs x) (fy : Frs K H1 ys y) (hl : x.length = y.length) (h10 : x.length ≤ 10) (sx : SzR 19237 x) (sy : SzR 19237 y) (nD : H1 D = none)
    (hq : ∀ H2, Same H1 H2 → LstF K H2 D (bothF x y) → Qd H2) {σ : L2.St} (hσ : σ.length = 22) :
    ∃ W : Nat → Nat → Hp → Prop, (∃ m, W 0 m (upd H1 D (.lst []))) ∧ ∀ i m H, W i m H →
      ((RZ.ItzT K a b).stop i H ∧ Qd H) ∨ ((RZ.ItzT K a b).go i H ∧ ∃ Nx : Hp → Prop, (∀ H', Nx H' → ∃ m', m' < m ∧ W (i + 1) m' H') ∧ ∀ x H', (RZ.ItzT K a b).yld i H x H' → gPair K 20 21 x (wipe σ [20, 21]) H' fun σ2 H2 => wipe σ2 [20, 21] = wipe σ [20, 21] ∧ tYes σ2 H2 fun b H3 =>
        if b = true then (tCall (spBin K anyQ (· + ·)) [] E0 (tCons (tVar 20) (tCons (tVar 21) tNil))) σ2 H3 fun y H4 => ∃ acc, H4 D = some (.lst acc) ∧ acc.length < sizeLine ∧ Nx (upd H4 D (.lst (acc ++ [y]))) else Nx H3) := by
  match σ, hσ with
  | [y0, y1, y2, y3, y4, y5, y6, y7, y8, y9, y10, y11, y12, y13, y14, y15, y16, y17, y18, y19, y20, y21], _ =>
    have lx := fx.len
    have ly := fy.len
    refine lc_fr (K := K) (walk_zipT (xs := xs) (ys := ys) (by omega)) (bothF x y) (by rw [both_len hl, lx]) nD (by omega) (fun H' e => ⟨sqT_tk (.same e) hx, sqT_tk (.same e) hy⟩) ?_ hq
    rintro i v4 H2 H3 q hq e2 ⟨t, u, z, rfl, nt, rfl, hu, hz⟩ k hk
    obtain ⟨p, p2, hp, hp2, rfl⟩ := both_at hq
    have s4 := same_new (o := .tup [u, z]) nt
    have eA := e2.trans s4
    refine ⟨t, _, rfl, .of upd_same, rfl, _, _, rfl, _, _, rfl, rfl, rfl, ?_⟩
    exact ⟨u, rfl, z, rfl, _, _, p, p2, rfl, (fx.at' i u p hu hp).same eA, (fy.at' i z p2 hz hp2).same eA, sz_small (sx _ (List.mem_of_getElem? hp)) (by decide), sz_small (sy _ (List.mem_of_getElem? hp2)) (by decide), trivial, fun v H5 e5 f5 => hk v H5 (s4.trans e5) f5⟩
def spLaw (K : PySem.W.Frag) : Sp := fun vs H Q _ => ∃ (a : Addr) (ns : List Int), vs = [.ref a] ∧ SqL K H a (ns.map V.int) ∧ ns.length ≤ 63 ∧ ∀ H', Q (.bl true) H'
abbrev nLaw : List Str := ["_law_script", "_law_pen", "_law_turn", "_law_v", "_law_size", "_law_some", "_law_rests", "_law_debts", "_law_rest", "_law_goals", "_law_rows", "_law_told", "_law_twice", "_law_due", "_law_both", "_law_wider", "_law_k", "_law_row", "_law_part", "_law_one", "_law_a", "_law_b"]
theorem scLaw : FnScope nLaw ["_law_script"] (defScope (topS 44)) := ⟨rfl, rfl, rfl, by decide +kernel, rfl, by decide +kernel, by decide +kernel⟩
section
variable {P : Program} {w : World} {K : PySem.W.Frag} {mg : Str → Option Value} {base : Heap}
theorem d_law (T : Tx P K mg base) {f : Addr} {fd : FuncData} (F : Fun K "law" "law" (topS 44) f fd) : FnOk P w K mg base CX0 47 f fd ["_law_script"] (spLaw K) := by
  refine F.ok scLaw (fun vs H Q E h => ?_) (fun cdv A outer s H vs Q E hr h => ?_)
  · obtain ⟨a, ns, rfl, _⟩ := h
    rfl
  · obtain ⟨a, ns, rfl, hS, hl, kk⟩ := h
    refine ⟨_, pss_cons (ps_set (i := 1) scLaw.nd rfl (.inr rfl) (pe_def (d_open T) (hr.mono (by decide)) (pa_cons (pv 0) pa_nil)))
      (pss_cons (ps_for PassesOwn.never rfl (pi_range1 rfl T.bRange (pa_cons pe_int pa_nil)) (pg_name (i := 2) scLaw.nd rfl (.inl rfl))
        -- _law_v, _law_size
        (pss_cons (ps_asg (pe_tup (pa_cons (pe_def (d_drawFactor T) (hr.mono (by decide)) (pa_cons (pv 1) pa_nil)) (pa_cons (pe_op op_add pe_int (pe_def (d_take T) (hr.mono (by decide)) (pa_cons (pv 1) (pa_cons pe_int pa_nil)))) pa_nil)))
          (pg_tup rfl (pgs_cons (pg_name (i := 3) scLaw.nd rfl (.inr rfl)) (pgs_cons (pg_name (i := 4) scLaw.nd rfl (.inl rfl)) pgs_nil))))
        -- _law_some, _law_rests
        (pss_cons (ps_set (i := 5) scLaw.nd rfl (.inl rfl) (pe_callTy call_tuple_of (by rfl) T.bTuple PyProof.Rows.boot_tuple (pa_cons
          (pe_lc (own := [("_law_k", 16)]) (g := gName 16) (tt := tYes) (te := tCall (spDrawRow K) [] E0 (tCons (tVar 1) (tCons (tC (.int 6)) tNil))) rfl scLaw.nd (pi_range1 rfl T.bRange (pa_cons (pv 4) pa_nil))
            (blkOk_by (N := nLaw) (sc := defScope (topS 44)) (by decide +kernel)) (fun _ _ _ _ _ => pg_name (i := 16) scLaw.nd rfl (.inl rfl)) (fun _ _ _ _ _ => pts_nil)
            (fun _ _ _ _ _ => pe_def (d_drawRow T) (hr.mono (by decide)) (pa_cons (pv 1) (pa_cons pe_int pa_nil)))) pa_nil)))
        (pss_cons (ps_set (i := 6) scLaw.nd rfl (.inl rfl) (pe_callTy call_tuple_of (by rfl) T.bTuple PyProof.Rows.boot_tuple (pa_cons
          (pe_lc (own := [("_law_k", 16)]) (g := gName 16) (tt := tYes) (te := tCall (spDraw 4 (isRest K)) [] E0 (tCons (tVar 1) tNil)) rfl scLaw.nd (pi_range1 rfl T.bRange (pa_cons (pv 4) pa_nil))
            (blkOk_by (N := nLaw) (sc := defScope (topS 44)) (by decide +kernel)) (fun _ _ _ _ _ => pg_name (i := 16) scLaw.nd rfl (.inl rfl)) (fun _ _ _ _ _ => pts_nil)
            (fun _ _ _ _ _ => pe_def (d_drawRest T) (hr.mono (by decide)) (pa_cons (pv 1) pa_nil))) pa_nil)))
        -- _law_debts, _law_rest
        (pss_cons (ps_par (i := 7) (j := 8) (by rfl) scLaw.nd rfl rfl (by decide) rfl rfl (pa_cons (pe_def (d_drawRow T) (hr.mono (by decide)) (pa_cons (pv 1) (pa_cons pe_int pa_nil))) (pa_cons (pe_def (d_drawRest T) (hr.mono (by decide)) (pa_cons (pv 1) pa_nil)) pa_nil)) (by rfl))
        -- _law_goals, _law_rows
        (pss_cons (ps_set (i := 9) scLaw.nd rfl (.inl rfl) (pe_lst (pa_cons (pe_def (d_worth T) (hr.mono (by decide)) (pa_cons (pv 7) (pa_cons (pv 8) (pa_cons (pv 3) pa_nil)))) (pa_cons (pe_def (d_slope T) (hr.mono (by decide)) (pa_cons (pv 7) (pa_cons (pv 8) (pa_cons (pv 3) pa_nil)))) pa_nil))))
        (pss_cons (ps_set (i := 10) scLaw.nd rfl (.inl rfl) (pe_lst (pa_cons (pe_callTy call_tuple_of (by rfl) T.bTuple PyProof.Rows.boot_tuple (pa_cons
          (pe_lc (own := [("_law_row", 17), ("_law_part", 18)]) (g := gPair K 17 18) (tt := tYes) (te := tCall (spWorth K worthF) [] E0 (tCons (tVar 17) (tCons (tVar 18) (tCons (tVar 3) tNil)))) rfl scLaw.nd (RZ.pi_zipA (by rfl) T.bZip (pa_cons (pv 5) (pa_cons (pv 6) pa_nil)))
            (blkOk_by (N := nLaw) (sc := defScope (topS 44)) (by decide +kernel)) (fun _ _ _ _ _ => pg_tup rfl (pgs_cons (pg_name (i := 17) scLaw.nd rfl (.inl rfl)) (pgs_cons (pg_name (i := 18) scLaw.nd rfl (.inl rfl)) pgs_nil))) (fun _ _ _ _ _ => pts_nil)
            (fun _ _ _ _ _ => pe_def (d_worth T) (hr.mono (by decide)) (pa_cons (pv 17) (pa_cons (pv 18) (pa_cons (pv 3) pa_nil))))) pa_nil)) pa_nil)))
        (pss_cons (ps_expr (pe_bm PySem.F.plainAttrs_list PySem.F.slot_list_append PySem.F.type_list_append mt_append (pv 10) (pa_cons (pe_callTy call_tuple_of (by rfl) T.bTuple PyProof.Rows.boot_tuple (pa_cons
          (pe_lc (own := [("_law_row", 17), ("_law_part", 18)]) (g := gPair K 17 18) (tt := tYes) (te := tCall (spWorth K slopeF) [] E0 (tCons (tVar 17) (tCons (tVar 18) (tCons (tVar 3) tNil)))) rfl scLaw.nd (RZ.pi_zipA (by rfl) T.bZip (pa_cons (pv 5) (pa_cons (pv 6) pa_nil)))
            (blkOk_by (N := nLaw) (sc := defScope (topS 44)) (by decide +kernel)) (fun _ _ _ _ _ => pg_tup rfl (pgs_cons (pg_name (i := 17) scLaw.nd rfl (.inl rfl)) (pgs_cons (pg_name (i := 18) scLaw.nd rfl (.inl rfl)) pgs_nil))) (fun _ _ _ _ _ => pts_nil)
            (fun _ _ _ _ _ => pe_def (d_slope T) (hr.mono (by decide)) (pa_cons (pv 17) (pa_cons (pv 18) (pa_cons (pv 3) pa_nil))))) pa_nil)) pa_nil)))
        -- _law_told
        (pss_cons (ps_set (i := 11) scLaw.nd rfl (.inl rfl) (pe_def (d_hedge T) (hr.mono (by decide)) (pa_cons (pv 5) (pa_cons (pv 6) (pa_cons (pv 3) (pa_cons (pe_ix ix_list (pv 9) pe_int fun _ _ => rfl) (pa_cons (pe_ix ix_list (pv 9) pe_int fun _ _ => rfl) pa_nil)))))))
        (pss_cons (ps_if (pt_cmpR op_ne (pe_cmpR op_isN (pv 11) pe_non (nomark _)) (pe_cmpR op_isN (pe_def (d_solution T) (hr.mono (by decide))
          (pa_cons (pe_callTy call_tuple_of (by rfl) T.bTuple PyProof.Rows.boot_tuple (pa_cons (pv 10) pa_nil)) (pa_cons (pe_callTy call_tuple_of (by rfl) T.bTuple PyProof.Rows.boot_tuple (pa_cons (pv 9) pa_nil)) pa_nil))) pe_non (nomark _)) (nomark _)) (pss_one (ps_ret pe_bl)) pss_nil)
        (pss_cons (ps_if (pt_cmpR op_isN (pv 11) pe_non (nomark _))
          (pss_one (ps_if (pt_cmpR op_notBl (pe_def (d_isBar T) (hr.mono (by decide))
            (pa_cons (pe_callTy call_tuple_of (by rfl) T.bTuple PyProof.Rows.boot_tuple (pa_cons (pv 10) pa_nil)) (pa_cons (pe_callTy call_tuple_of (by rfl) T.bTuple PyProof.Rows.boot_tuple (pa_cons (pv 9) pa_nil))
              (pa_cons (pe_def (d_bar T) (hr.mono (by decide)) (pa_cons (pe_callTy call_tuple_of (by rfl) T.bTuple PyProof.Rows.boot_tuple (pa_cons (pv 10) pa_nil)) (pa_cons (pe_callTy call_tuple_of (by rfl) T.bTuple PyProof.Rows.boot_tuple (pa_cons (pv 9) pa_nil)) pa_nil))) pa_nil))))
              pe_bl (nomark _)) (pss_one (ps_ret pe_bl)) pss_nil))
          (pss_cons (ps_if (PW.pt (pw_or (pt_cmpR (op_neD hr.units) (pe_def (d_sums T) (hr.mono (by decide)) (pa_cons (pv 5) (pa_cons (pv 6) (pa_cons (pv 3) (pa_cons (pv 11) pa_nil))))) (pv 9) (nomark _))
              (pw_or1 (pt_cmpR op_notBl (pe_def (d_isSolution T) (hr.mono (by decide)) (pa_cons (pe_callTy call_tuple_of (by rfl) T.bTuple PyProof.Rows.boot_tuple (pa_cons (pv 10) pa_nil)) (pa_cons (pe_callTy call_tuple_of (by rfl) T.bTuple PyProof.Rows.boot_tuple (pa_cons (pv 9) pa_nil)) (pa_cons (pv 11) pa_nil))))
                pe_bl (nomark _))))) (pss_one (ps_ret pe_bl)) pss_nil)
          (pss_cons (ps_set (i := 12) scLaw.nd rfl (.inl rfl) (pe_def (d_hedge T) (hr.mono (by decide)) (pa_cons (pv 5) (pa_cons (pv 6) (pa_cons (pv 3)
              (pa_cons (pe_def (d_times T) (hr.mono (by decide)) (pa_cons (pe_tup (pa_cons pe_int (pa_cons pe_int pa_nil))) (pa_cons (pe_ix ix_list (pv 9) pe_int fun _ _ => rfl) pa_nil)))
              (pa_cons (pe_def (d_times T) (hr.mono (by decide)) (pa_cons (pe_tup (pa_cons pe_int (pa_cons pe_int pa_nil))) (pa_cons (pe_ix ix_list (pv 9) pe_int fun _ _ => rfl) pa_nil))) pa_nil)))))))
          (pss_cons (ps_setLc (i := 13) (own := [("_law_one", 19)]) (g := gName 19) (tt := tYes) (te := tCall (spBin K anyQ (· * ·)) [] E0 (tCons (tTup (tCons (tC (.int 2)) (tCons (tC (.int 1)) tNil))) (tCons (tVar 19) tNil))) rfl scLaw.nd rfl rfl (sw_true rfl rfl rfl (by decide +kernel))
              (pi_list (pv 9)) (blkOk_by (N := nLaw) (sc := defScope (topS 44)) (by decide +kernel)) (fun _ _ _ _ _ => pg_name (i := 19) scLaw.nd rfl (.inl rfl)) (fun _ _ _ _ _ => pts_nil)
              (fun _ _ _ _ _ => pe_def (d_times T) (hr.mono (by decide)) (pa_cons (pe_tup (pa_cons pe_int (pa_cons pe_int pa_nil))) (pa_cons (pv 19) pa_nil))))
          (pss_cons (ps_if (PW.pt (pw_or (pt_cmpR op_isN (pv 12) pe_non (nomark _)) (pw_or1 (pt_cmpR (op_neD hr.units) (pe_def (d_sums T) (hr.mono (by decide)) (pa_cons (pv 5) (pa_cons (pv 6) (pa_cons (pv 3) (pa_cons (pv 12) pa_nil))))) (pv 13) (nomark _))))) (pss_one (ps_ret pe_bl)) pss_nil)
          (pss_cons (ps_set (i := 14) scLaw.nd rfl (.inl rfl) (pe_callTy call_tuple_of (by rfl) T.bTuple PyProof.Rows.boot_tuple (pa_cons
            (pe_lc (own := [("_law_a", 20), ("_law_b", 21)]) (g := gPair K 20 21) (tt := tYes) (te := tCall (spBin K anyQ (· + ·)) [] E0 (tCons (tVar 20) (tCons (tVar 21) tNil))) rfl scLaw.nd (RZ.pi_zipA (by rfl) T.bZip (pa_cons (pv 11) (pa_cons (pv 12) pa_nil)))
              (blkOk_by (N := nLaw) (sc := defScope (topS 44)) (by decide +kernel)) (fun _ _ _ _ _ => pg_tup rfl (pgs_cons (pg_name (i := 20) scLaw.nd rfl (.inl rfl)) (pgs_cons (pg_name (i := 21) scLaw.nd rfl (.inl rfl)) pgs_nil))) (fun _ _ _ _ _ => pts_nil)
              (fun _ _ _ _ _ => pe_def (d_plus T) (hr.mono (by decide)) (pa_cons (pv 20) (pa_cons (pv 21) pa_nil)))) pa_nil)))
          (pss_one (ps_if (pt_cmpR (op_neD hr.units) (pe_def (d_sums T) (hr.mono (by decide)) (pa_cons (pv 5) (pa_cons (pv 6) (pa_cons (pv 3) (pa_cons (pv 14) pa_nil)))))
            (pe_lc (own := [("_law_one", 19)]) (g := gName 19) (tt := tYes) (te := tCall (spBin K anyQ (· * ·)) [] E0 (tCons (tTup (tCons (tC (.int 3)) (tCons (tC (.int 1)) tNil))) (tCons (tVar 19) tNil))) rfl scLaw.nd
              (pi_list (pv 9)) (blkOk_by (N := nLaw) (sc := defScope (topS 44)) (by decide +kernel)) (fun _ _ _ _ _ => pg_name (i := 19) scLaw.nd rfl (.inl rfl)) (fun _ _ _ _ _ => pts_nil)
              (fun _ _ _ _ _ => pe_def (d_times T) (hr.mono (by decide)) (pa_cons (pe_tup (pa_cons pe_int (pa_cons pe_int pa_nil))) (pa_cons (pv 19) pa_nil)))) (nomark _)) (pss_one (ps_ret pe_bl)) pss_nil))))))))
        (pss_cons (ps_set (i := 15) scLaw.nd rfl (.inl rfl) (pe_def (d_hedge T) (hr.mono (by decide)) (pa_cons (pe_op op_catT (pv 5) (pe_tup (pa_cons (pv 7) pa_nil))) (pa_cons (pe_op op_catT (pv 6) (pe_tup (pa_cons (pv 8) pa_nil))) (pa_cons (pv 3)
            (pa_cons (pe_ix ix_list (pv 9) pe_int fun _ _ => rfl) (pa_cons (pe_ix ix_list (pv 9) pe_int fun _ _ => rfl) pa_nil)))))))
        (pss_one (ps_if (PW.pt (pw_or (pt_cmpR op_isN (pv 15) pe_non (nomark _)) (pw_or1 (pt_cmpR (op_neD hr.units) (pe_def (d_sums T) (hr.mono (by decide)) (pa_cons (pe_op op_catT (pv 5) (pe_tup (pa_cons (pv 7) pa_nil))) (pa_cons (pe_op op_catT (pv 6) (pe_tup (pa_cons (pv 8) pa_nil))) (pa_cons (pv 3) (pa_cons (pv 15) pa_nil))))) (pv 9) (nomark _))))) (pss_one (ps_ret pe_bl)) pss_nil))))))))))))))
      (pss_one (ps_ret pe_bl))), ?_⟩
    -- a column of rows, as the law makes it
    have col : ∀ {fn : List Rat → Rat → Rat → Rat} {H1 : Hp} {D ts tr : Addr} {xv : V} {L : List (List Rat)} {ws : List Rat} {v : Rat} {avs rvs : List V} {Qd : Hp → Prop} (bk : BookOk v L ws) (hS : SqT K H1 ts avs) (al : avs.length = L.length)
        (af : ∀ (i : Nat) (u : V) (r : List Rat), avs[i]? = some u → L[i]? = some r → TupF K H1 u r) (hR : SqT K H1 tr rvs) (rf : Frs K H1 rvs ws) (fv : Fr K H1 xv v) (nD : H1 D = none)
        (hd : ∀ H2, Same H1 H2 → LstF K H2 D (List.zipWith (fun r w => fn r w v) L ws) → Qd H2) {σ : L2.St} (hσ : σ.length = 22 ∧ σ[3]? = some (some xv)),
        ∃ W : Nat → Nat → Hp → Prop, (∃ m, W 0 m (upd H1 D (.lst []))) ∧ ∀ i m H, W i m H →
          ((RZ.ItzT K ts tr).stop i H ∧ Qd H) ∨ ((RZ.ItzT K ts tr).go i H ∧ ∃ Nx : Hp → Prop, (∀ H', Nx H' → ∃ m', m' < m ∧ W (i + 1) m' H') ∧ ∀ x H', (RZ.ItzT K ts tr).yld i H x H' → gPair K 17 18 x (wipe σ [17, 18]) H' fun σ2 H2 => wipe σ2 [17, 18] = wipe σ [17, 18] ∧ tYes σ2 H2 fun b H3 =>
            if b = true then (tCall (spWorth K fn) [] E0 (tCons (tVar 17) (tCons (tVar 18) (tCons (tVar 3) tNil)))) σ2 H3 fun y H4 => ∃ acc, H4 D = some (.lst acc) ∧ acc.length < sizeLine ∧ Nx (upd H4 D (.lst (acc ++ [y]))) else Nx H3) := by
      intro fn H1 D ts tr xv L ws v avs rvs Qd bk hS al af hR rf fv nD hd σ hσ
      obtain ⟨hσ1, hσ2⟩ := hσ
      match σ, hσ1, hσ2 with
      | [y0, y1, y2, y3, y4, y5, y6, y7, y8, y9, y10, y11, y12, y13, y14, y15, y16, y17, y18, y19, y20, y21], _, hσ2 =>
        have e3 : y3 = some xv := Option.some.inj hσ2
        subst e3
        have bl := bk.len
        have rl := rf.len
        have len2 := bk.len2
        refine lc_fr (K := K) (walk_zipT (xs := avs) (ys := rvs) (by omega)) (List.zipWith (fun r w => fn r w v) L ws) (by rw [zw_len bl, al]) nD (by omega) (fun H' e => ⟨sqT_tk (.same e) hS, sqT_tk (.same e) hR⟩) ?_ hd
        rintro i v4 H2 H3 q hq e2 ⟨t, x, y, rfl, nt, rfl, hx, hy⟩ k hk
        obtain ⟨r, w', hr1, hw1, rfl⟩ := zw_at hq
        obtain ⟨o, vw⟩ := bk.ok i r w' hr1 hw1
        have e3 : Same H2 (upd H2 t (.tup [x, y])) := same_new nt
        have eA := e2.trans e3
        refine ⟨t, _, rfl, .of upd_same, rfl, _, _, rfl, _, _, rfl, rfl, rfl, ?_⟩
        exact ⟨x, rfl, y, rfl, xv, rfl, _, _, _, r, w', v, rfl, (af i x r hx hr1).same eA, (rf.at' i y w' hy hw1).same eA, fv.same eA, o, vw, fun y5 H5 e5 f5 => hk _ _ (e3.trans e5) f5⟩
    refine ⟨_, rfl, a, ns, rfl, hS, hl, fun pen ca H1 e1 npen p1 => ?_⟩
    refine ⟨5, rfl, by decide, by decide, ?_⟩
    refine for_it (walk_rng0 (n := (5 : Int).toNat)) (fun i σ H' => ∃ y2 y3 y4 y5 y6 y7 y8 y9 y10 y11 y12 y13 y14 y15, σ = [some (.ref a), some (.ref pen), y2, y3, y4, y5, y6, y7, y8, y9, y10, y11, y12, y13, y14, y15, none, none, none, none, none, none] ∧ Pen H' pen ca (320 * i))
      ⟨none, none, none, none, none, none, none, none, none, none, none, none, none, none, rfl, p1⟩ (fun _ _ _ _ _ => trivial) ?_ ?_
    · rintro i x σ H2 H3 hi ⟨y2, y3, y4, y5, y6, y7, y8, y9, y10, y11, y12, y13, y14, y15, rfl, p2⟩ ⟨rfl, rfl⟩
      have hi : i < 5 := hi
      -- the draws
      refine ⟨_, rfl, pen, ca, _, rfl, p2, by omega, fun xv H4 b4 p4 fac4 => ?_⟩
      refine ⟨_, rfl, pen, ca, 3, _, rfl, p4, by omega, by decide, by decide, fun r3 H5 b5 p5 r30 r31 => ?_⟩
      refine ⟨_, _, rfl, rfl, by show 2 ≤ sizeLine; decide, fun t0 nt0 => ⟨t0, _, rfl, .of upd_same, rfl, _, _, rfl, _, _, rfl, rfl, ?_⟩⟩
      have p6 := p5.same (same_new (o := .tup [xv, .int (1 + r3)]) nt0)
      have fac6 := (fac4.tk b5.tk).tk (.same (same_new (o := .tup [xv, .int (1 + r3)]) nt0))
      dsimp only
      generalize upd H5 t0 (.tup [xv, .int (1 + r3)]) = H6 at p6 fac6 ⊢
      -- the rows
      refine ⟨_, rfl, _, rfl, by omega, by omega, fun D nD => ?_⟩
      refine lc_pen (walk_rng0 (n := (1 + r3).toNat)) 58 (isRow K) nD (by omega) p6 (fun H' e => trivial) (fun _ _ _ e h => h.tk e) ?_ ?_
      · rintro j x H7 H8 hj b8 p8 ⟨rfl, rfl⟩ k hk
        have : 320 * i + 3 + 1 + 58 * j + 58 ≤ 4000 := by omega
        exact ⟨rfl, _, rfl, pen, ca, _, rfl, p8, by omega, fun v H9 b9 p9 f9 => hk v H9 b9 p9 f9⟩
      intro H7 avs b7 p7 hD hla hRows
      have p7 := p7.mono (C := 320 * i + 180) (by omega)
      obtain ⟨L, hL, hat, hmL⟩ := exists_list hRows
      refine ⟨D, avs, rfl, .inl ⟨.of hD, fun ts nts => ?_⟩⟩
      have s8 := same_new (o := .tup avs) nts
      have p8 := p7.same s8
      have fac8 := (fac6.tk b7.tk).tk (.same s8)
      have rows8 : RowsF K (upd H7 ts (.tup avs)) (.ref ts) L := ⟨ts, avs, rfl, .of upd_same, hL.symm, fun i u r h1 h2 => ((hat i u r h1 h2).1).same s8⟩
      generalize upd H7 ts (.tup avs) = H8 at p8 fac8 rows8 ⊢
      -- the rests
      refine ⟨_, rfl, _, rfl, by omega, by omega, fun D2 nD2 => ?_⟩
      refine lc_pen (walk_rng0 (n := (1 + r3).toNat)) 4 (isRest K) nD2 (by omega) p8 (fun H' e => trivial) (fun _ _ _ e h => h.tk e) ?_ ?_
      · rintro j x H9 H10 hj b10 p10 ⟨rfl, rfl⟩ k hk
        exact ⟨rfl, _, rfl, pen, ca, _, rfl, p10, by omega, fun v H9 b9 p9 f9 => hk v H9 b9 p9 f9⟩
      intro H9 rvs b9 p9 hD2 hlr hRests
      have p9 := p9.mono (C := 320 * i + 192) (by omega)
      obtain ⟨ws, hws, hwat, hmw⟩ := exists_list hRests
      refine ⟨D2, rvs, rfl, .inl ⟨.of hD2, fun tr ntr => ?_⟩⟩
      have s10 := same_new (o := .tup rvs) ntr
      have p10 := p9.same s10
      have fac10 := (fac8.tk b9.tk).tk (.same s10)
      have rows10 := (rows8.tk b9.tk).tk (.same s10)
      have rests10 : TupF K (upd H9 tr (.tup rvs)) (.ref tr) ws := ⟨tr, rvs, rfl, .of upd_same, ⟨hws.symm, fun i u r h1 h2 => ((hwat i u r h1 h2).1).same s10⟩⟩
      generalize upd H9 tr (.tup rvs) = H10 at p10 fac10 rows10 rests10 ⊢
      -- the debts
      refine ⟨_, rfl, pen, ca, _, rfl, p10, by omega, fun vd H11 b11 p11 ⟨r, fr11, ro⟩ => ?_⟩
      refine ⟨_, rfl, pen, ca, _, rfl, p11, by omega, fun xw H12 b12 p12 ⟨w', fw12, w0, w1, sw⟩ => ⟨_, _, rfl, ?_⟩⟩
      obtain ⟨v, fv12, v0, sv⟩ := (fac10.tk b11.tk).tk b12.tk
      have rows12 := (rows10.tk b11.tk).tk b12.tk
      have rests12 := (rests10.tk b11.tk).tk b12.tk
      have fd12 := fr11.tk b12.tk
      have p12 := p12.mono (C := 320 * (i + 1)) (by omega)
      have G : Goals v L ws r w' := ⟨⟨by omega, by omega, by omega, fun j q u h1 h2 => by
          obtain ⟨_, _, oq⟩ := hmL q (List.mem_of_getElem? h1)
          obtain ⟨_, _, u0, u1, su⟩ := hmw u (List.mem_of_getElem? h2)
          exact ⟨oq, vw_of v0 sv u0 u1 su⟩⟩, by omega, ro, vw_of v0 sv w0 w1 sw⟩
      clear hmw hmL hat hwat hRests hRows b4 b5 b7 b9 b11 b12 p2 p4 p5 p6 p7 p8 p9 p10 p11 fac4 fac6 fac8 fac10 rows8 rows10 rests10 fr11
      -- the goals
      refine ⟨_, rfl, _, rfl, _, rfl, vd, xw, xv, r, w', v, rfl, fd12, fw12, fv12, ro, G.vw, fun x0 H13 e13 f0 => ?_⟩
      refine ⟨_, rfl, _, rfl, _, rfl, vd, xw, xv, r, w', v, rfl, fd12.same e13, fw12.same e13, fv12.same e13, ro, G.vw, fun x1 H14 e14 f1 => ?_⟩
      refine ⟨by show 2 ≤ sizeLine; decide, fun lg nlg => ?_⟩
      have s15 := (e13.trans e14).trans (same_new (o := .lst [x0, x1]) nlg)
      have gl15 : (upd H14 lg (.lst [x0, x1])) lg = some (.lst [x0, x1]) := upd_same
      have f0' := f0.same (e14.trans (same_new (o := .lst [x0, x1]) nlg))
      have f1' := f1.same (same_new (o := .lst [x0, x1]) nlg)
      generalize upd H14 lg (.lst [x0, x1]) = H15 at s15 gl15 f0' f1' ⊢
      -- the columns
      have rows15 := rows12.same s15
      have rests15 := rests12.same s15
      obtain ⟨_, avs2, q2, hSq, al, af⟩ := id rows15
      cases q2
      obtain ⟨_, rvs2, q2, hRq, rf⟩ := id rests15
      cases q2
      refine ⟨_, rfl, _, rfl, ts, tr, avs2, rvs2, rfl, .inr ⟨hSq, hRq, fun D3 nD3 => ?_⟩⟩
      refine col (fn := worthF) G.bk hSq al af hRq rf (fv12.same s15) nD3 (fun H16 e16 hL16 => ?_) ⟨rfl, rfl⟩
      obtain ⟨wvs, hD3, hw⟩ := hL16
      refine ⟨D3, wvs, rfl, .inl ⟨.of hD3, fun ta nta => ?_⟩⟩
      have s17 := e16.trans (same_new (o := .tup wvs) nta)
      have fa17 : TupF K (upd H16 ta (.tup wvs)) (.ref ta) (wsF L ws v) := ⟨ta, wvs, rfl, .of upd_same, hw.same (same_new nta)⟩
      generalize upd H16 ta (.tup wvs) = H17 at s17 fa17 ⊢
      refine ⟨by show 1 ≤ sizeLine; decide, fun lr nlr => ?_⟩
      have lrg : lg ≠ lr := ne_of_none (s17 _ _ gl15) nlr
      have p17 := p12.same (s15.trans s17)
      have lrp : lr ≠ pen := p17.off nlr
      have lrc : lr ≠ ca := fun e => p17.cell (e ▸ nlr)
      have s18 := s17.trans (same_new (o := .lst [.ref ta]) nlr)
      have fa18 := fa17.same (same_new (o := .lst [.ref ta]) nlr)
      have rr18 : (upd H17 lr (.lst [.ref ta])) lr = some (.lst [.ref ta]) := upd_same
      generalize upd H17 lr (.lst [.ref ta]) = H18 at s18 fa18 rr18 ⊢
      refine ⟨_, rfl, .inl ⟨rfl, _, .of rr18⟩, _, rfl, _, rfl, ts, tr, avs2, rvs2, rfl, .inr ⟨sqT_tk (.same s18) hSq, sqT_tk (.same s18) hRq, fun D4 nD4 => ?_⟩⟩
      refine col (fn := slopeF) G.bk (sqT_tk (.same s18) hSq) al (fun j u q h1 h2 => (af j u q h1 h2).same s18) (sqT_tk (.same s18) hRq) (rf.same s18) (fv12.same (s15.trans s18)) nD4 (fun H19 e19 hL19 => ?_) ⟨rfl, rfl⟩
      obtain ⟨svs, hD4, hsl⟩ := hL19
      refine ⟨D4, svs, rfl, .inl ⟨.of hD4, fun tb ntb => ?_⟩⟩
      have s20 := e19.trans (same_new (o := .tup svs) ntb)
      have fb20 : TupF K (upd H19 tb (.tup svs)) (.ref tb) (ssF L ws v) := ⟨tb, svs, rfl, .of upd_same, hsl.same (same_new ntb)⟩
      generalize upd H19 tb (.tup svs) = H20 at s20 fb20 ⊢
      have rr20 := s20 _ _ rr18
      refine ⟨lr, _, _, rfl, rfl, rr20, small1000 (by show 1 ≤ 1000; decide), ?_⟩
      have sA := s18.trans s20
      have k21 : Tk H20 (upd H20 lr (.lst ([.ref ta] ++ [.ref tb]))) := .lst rr20
      have tf : TF K (upd H20 lr (.lst ([.ref ta] ++ [.ref tb]))) ⟨pen, ca, ts, tr, lg, lr, ta, tb, xv, vd, xw, x0, x1, 320 * (i + 1), L, ws, v, r, w'⟩ :=
        ⟨((p12.same s15).same sA).put lrp lrc, (rows15.same sA).tk k21, (rests15.same sA).tk k21, (fv12.same (s15.trans sA)).tk k21, (fd12.same (s15.trans sA)).tk k21, (fw12.same (s15.trans sA)).tk k21,
          by show (upd H20 lr _) lg = _; rw [upd_ne lrg]; exact sA _ _ gl15, (f0'.same sA).tk k21, (f1'.same sA).tk k21, upd_same, (fa18.same s20).tk k21, fb20.tk k21⟩
      generalize upd H20 lr (.lst ([.ref ta] ++ [.ref tb])) = H21 at tf ⊢
      clear sA k21 rr20 fb20 s20 hsl hD4 e19 nD4 rr18 fa18 s18 lrc lrp p17 lrg nlr fa17 s17 hw hD3 e16 nD3 rests15 rows15 f1' f0' gl15 s15 nlg f1 e14 f0 e13 p12 fd12 rests12 rows12 sv v0 fv12 sw w1 w0 fw12 ro hRq rf hSq al af col
      -- told
      refine ⟨_, rfl, _, rfl, _, rfl, _, rfl, lg, _, 0, _, rfl, rfl, .of tf.gl, atI_zero, _, rfl, lg, _, 1, _, rfl, rfl, .of tf.gl, atI_one, ?_⟩
      refine ⟨_, _, _, _, _, L, ws, v, _, _, rfl, tf.rows, tf.rests, tf.fv, tf.f0, tf.f1, G.bk, sz0 G.sg, sz0 G.sh, fun yt H22 e22 o22 => ?_⟩
      have tf22 := tf.same e22
      -- the solution
      refine ⟨_, rfl, rfl, _, rfl, lr, _, rfl, .inl ⟨.of tf22.rr, fun q1 n1 => ?_⟩⟩
      have tf23 := tf22.same (same_new (o := .tup [.ref ta, .ref tb]) n1)
      refine ⟨_, rfl, lg, _, rfl, .inl ⟨.of tf23.gl, fun q2 n2 => ?_⟩⟩
      have tf24 := tf23.same (same_new (o := .tup [x0, x1]) n2)
      refine ⟨q1, q2, _, _, _, _, rfl, tf24.sys G ((same_new n2) _ _ upd_same) upd_same, fun yv H25 e25 o25 => ?_⟩
      have s25 := ((same_new (o := .tup [.ref ta, .ref tb]) n1).trans (same_new (o := .tup [x0, x1]) n2)).trans e25
      have tf25 := tf24.same e25
      have o25b := o22.same s25
      refine ⟨rfl, rfl, _, rfl, iteBF (ndecF (congrArg V.bl ((optT_dec o25b).trans (optT_dec o25).symm))) ?_⟩
      cases ho : solF (wsF L ws v) (ssF L ws v) (worthF r w' v) (slopeF r w' v) with
      | none =>
        rw [ho] at o25b
        have o25c := o25b
        obtain ⟨z0, z1, eb, sz0', sz1', hnz, hz⟩ := bar_bars (S := 1202) (by decide) G.bk.ab (up1202 G.bk.sw) (up1202 G.bk.ss) (sz0 G.sg) (sz0 G.sh) ho
        refine ⟨_, rfl, rfl, _, rfl, iteB (optT_dec o25b) ?_⟩
        refine ⟨_, rfl, lr, _, rfl, .inl ⟨.of tf25.rr, fun q3 n3 => ?_⟩⟩
        have tf26 := tf25.same (same_new (o := .tup [.ref ta, .ref tb]) n3)
        have hq3 : (upd H25 q3 (.tup [.ref ta, .ref tb])) q3 = some (.tup [.ref ta, .ref tb]) := upd_same
        generalize upd H25 q3 (.tup [.ref ta, .ref tb]) = H26 at tf26 hq3 ⊢
        refine ⟨_, rfl, lg, _, rfl, .inl ⟨.of tf26.gl, fun q4 n4 => ?_⟩⟩
        have tf27 := tf26.same (same_new (o := .tup [x0, x1]) n4)
        have hq3 := (same_new (o := .tup [x0, x1]) n4) _ _ hq3
        have hq4 : (upd H26 q4 (.tup [x0, x1])) q4 = some (.tup [x0, x1]) := upd_same
        generalize upd H26 q4 (.tup [x0, x1]) = H27 at tf27 hq3 hq4 ⊢
        refine ⟨_, rfl, lr, _, rfl, .inl ⟨.of tf27.rr, fun q5 n5 => ?_⟩⟩
        have s28 := same_new (o := .tup [.ref ta, .ref tb]) n5
        have tf28 := tf27.same s28
        refine ⟨_, rfl, lg, _, rfl, .inl ⟨.of tf28.gl, fun q6 n6 => ?_⟩⟩
        have s29 := same_new (o := .tup [x0, x1]) n6
        have tf29 := tf28.same s29
        refine ⟨q5, q6, _, _, _, _, rfl, tf29.sys G (s29 _ _ upd_same) upd_same, fun yb H30 e30 o30 => ?_⟩
        rw [show barF (Tn.a ⟨pen, ca, ts, tr, lg, lr, ta, tb, xv, vd, xw, x0, x1, 320 * (i + 1), L, ws, v, r, w'⟩) (Tn.b ⟨pen, ca, ts, tr, lg, lr, ta, tb, xv, vd, xw, x0, x1, 320 * (i + 1), L, ws, v, r, w'⟩) _ _ = _ from eb] at o30
        have tf30 := tf29.same e30
        have s30 := (s28.trans s29).trans e30
        refine ⟨q3, q4, yb, _, _, _, _, z0, z1, rfl, tf30.sys G (s30 _ _ hq3) (s30 _ _ hq4), o30, sz0'.mono (by decide), sz1'.mono (by decide), hz, hnz, fun Hn en => ?_⟩
        have tfn := tf30.same en
        refine ⟨_, _, rfl, rfl, _, rfl, iteBF (by decide) ?_⟩
        -- wider
        obtain ⟨_, avs3, q3, hSq, al, af⟩ := id tfn.rows
        cases q3
        obtain ⟨_, rvs3, q3, hRq, rf⟩ := id tfn.rests
        cases q3
        have al : avs3.length = L.length := al
        have l1 := G.bk.len1
        have l3 := G.len3
        have lw := G.bk.len
        have rl : rvs3.length = ws.length := rf.len
        have ane : avs3 ≠ [] := fun e => by rw [e] at al; rw [← al] at l1; exact absurd l1 (by decide)
        have rne : rvs3 ≠ [] := fun e => by rw [e] at rl; rw [← lw, ← rl] at l1; exact absurd l1 (by decide)
        refine ⟨_, rfl, _, rfl, by show 1 ≤ sizeLine; decide, fun d1 nd1 => ?_⟩
        have w1 := same_new (o := .tup [vd]) nd1
        refine ⟨ts, d1, avs3, [vd], rfl, rfl, sqT_tk (.same w1) hSq, .of upd_same, ane, Nat.le_of_lt (small1000 (by show avs3.length + 1 ≤ 1000; omega)), (fun h => by cases h), fun _ c1 nc1 => ?_⟩
        have w2 := w1.trans (same_new (o := .tup (avs3 ++ [vd])) nc1)
        have rw2 : RowsF K (upd (upd Hn d1 (.tup [vd])) c1 (.tup (avs3 ++ [vd]))) (.ref c1) (L ++ [r]) := rows_snoc (.of upd_same) al (fun j u q h1 h2 => (af j u q h1 h2).same w2) (tfn.fd.same w2)
        have tf2 := tfn.same w2
        generalize upd (upd Hn d1 (.tup [vd])) c1 (.tup (avs3 ++ [vd])) = Hm at w2 rw2 tf2 ⊢
        refine ⟨_, rfl, _, rfl, by show 1 ≤ sizeLine; decide, fun d2 nd2 => ?_⟩
        have w3 := same_new (o := .tup [xw]) nd2
        refine ⟨tr, d2, rvs3, [xw], rfl, rfl, sqT_tk (.same (w2.trans w3)) hRq, .of upd_same, rne, Nat.le_of_lt (small1000 (by show rvs3.length + 1 ≤ 1000; omega)), (fun h => by cases h), fun _ c2 nc2 => ?_⟩
        have w4 := w3.trans (same_new (o := .tup (rvs3 ++ [xw])) nc2)
        have rs4 : TupF K (upd (upd Hm d2 (.tup [xw])) c2 (.tup (rvs3 ++ [xw]))) (.ref c2) (ws ++ [w']) := ⟨c2, _, rfl, .of upd_same, (rf.same (w2.trans w4)).snoc (tf2.fw.same w4)⟩
        have rw4 := rw2.same w4
        have tf4 := tf2.same w4
        generalize upd (upd Hm d2 (.tup [xw])) c2 (.tup (rvs3 ++ [xw])) = Hk at w4 rs4 rw4 tf4 ⊢
        refine ⟨_, rfl, _, rfl, lg, _, 0, _, rfl, rfl, .of tf4.gl, atI_zero, _, rfl, lg, _, 1, _, rfl, rfl, .of tf4.gl, atI_one, ?_⟩
        refine ⟨_, _, _, _, _, L ++ [r], ws ++ [w'], v, _, _, rfl, rw4, rs4, tf4.fv, tf4.f0, tf4.f1, G.wide, sz0 G.sg, sz0 G.sh, fun yw Hj ej oj => ?_⟩
        obtain ⟨xs, hxs⟩ := Option.ne_none_iff_exists'.mp G.wider
        obtain ⟨xl, xz, xd0, xd1⟩ := G.wide.told (sz0 G.sg) (sz0 G.sh) hxs
        rw [hxs] at oj
        have tf5 := tf4.same ej
        have w5 := (w2.trans w4).trans ej
        refine ⟨_, rfl, rfl, _, rfl, iteBF (optT_dec oj) ?_⟩
        refine ⟨_, rfl, _, rfl, by show 1 ≤ sizeLine; decide, fun d3 nd3 => ?_⟩
        have w6 := same_new (o := .tup [vd]) nd3
        refine ⟨ts, d3, avs3, [vd], rfl, rfl, sqT_tk (.same (w5.trans w6)) hSq, .of upd_same, ane, Nat.le_of_lt (small1000 (by show avs3.length + 1 ≤ 1000; omega)), (fun h => by cases h), fun _ c3 nc3 => ?_⟩
        have w7 := w6.trans (same_new (o := .tup (avs3 ++ [vd])) nc3)
        have rw7 : RowsF K (upd (upd Hj d3 (.tup [vd])) c3 (.tup (avs3 ++ [vd]))) (.ref c3) (L ++ [r]) := rows_snoc (.of upd_same) al (fun j u q h1 h2 => (af j u q h1 h2).same (w5.trans w7)) (tf5.fd.same w7)
        have tf7 := tf5.same w7
        have oj7 : TupF K (upd (upd Hj d3 (.tup [vd])) c3 (.tup (avs3 ++ [vd]))) yw xs := TupF.same w7 oj
        generalize upd (upd Hj d3 (.tup [vd])) c3 (.tup (avs3 ++ [vd])) = Hi at w7 rw7 tf7 oj7 ⊢
        refine ⟨_, rfl, _, rfl, by show 1 ≤ sizeLine; decide, fun d4 nd4 => ?_⟩
        have w8 := same_new (o := .tup [xw]) nd4
        refine ⟨tr, d4, rvs3, [xw], rfl, rfl, sqT_tk (.same ((w5.trans w7).trans w8)) hRq, .of upd_same, rne, Nat.le_of_lt (small1000 (by show rvs3.length + 1 ≤ 1000; omega)), (fun h => by cases h), fun _ c4 nc4 => ?_⟩
        have w9 := w8.trans (same_new (o := .tup (rvs3 ++ [xw])) nc4)
        have rs9 : TupF K (upd (upd Hi d4 (.tup [xw])) c4 (.tup (rvs3 ++ [xw]))) (.ref c4) (ws ++ [w']) := ⟨c4, _, rfl, .of upd_same, (rf.same ((w5.trans w7).trans w9)).snoc (tf7.fw.same w9)⟩
        have rw9 := rw7.same w9
        have tf9 := tf7.same w9
        have oj9 := oj7.same w9
        generalize upd (upd Hi d4 (.tup [xw])) c4 (.tup (rvs3 ++ [xw])) = Hh at w9 rs9 rw9 tf9 oj9 ⊢
        refine ⟨_, rfl, _, rfl, _, _, _, _, L ++ [r], ws ++ [w'], v, xs, rfl, rw9, rs9, tf9.fv, oj9, G.wide, xl, xz.mono (by decide), fun p Hg eg lg9 => ?_⟩
        rw [xd0, xd1] at lg9
        have tf10 := tf9.same eg
        refine ⟨_, rfl, _, _, lg9.dp, tf10.gls.dp, lstD_shaped _ _, lstD_shaped _ _, _, rfl, iteBF (by rw [lstD_eqv]; rfl) ?_⟩
        exact ⟨_, _, _, _, _, _, _, _, _, _, _, _, _, _, rfl, tf10.pn⟩
      | some x =>
        rw [ho] at o25b
        have hx25 : TupF K H25 yt x := o25b
        obtain ⟨xl, xz, xd0, xd1⟩ := G.bk.told (sz0 G.sg) (sz0 G.sh) ho
        refine ⟨_, rfl, rfl, _, rfl, iteBF (optT_dec o25b) ?_⟩
        refine ⟨_, rfl, _, rfl, _, rfl, _, rfl, _, _, _, _, L, ws, v, x, rfl, tf25.rows, tf25.rests, tf25.fv, hx25, G.bk, xl, xz.mono (by decide), fun p26 H26 e26 l26 => ?_⟩
        rw [xd0, xd1] at l26
        have tf26 := tf25.same e26
        have hx26 := hx25.same e26
        refine ⟨_, rfl, _, _, l26.dp, tf26.gls.dp, lstD_shaped _ _, lstD_shaped _ _, _, rfl, iteBF (by rw [lstD_eqv]; rfl) ?_⟩
        refine ⟨_, rfl, lr, _, rfl, .inl ⟨.of tf26.rr, fun q7 n7 => ?_⟩⟩
        have s27 := same_new (o := .tup [.ref ta, .ref tb]) n7
        have tf27 := tf26.same s27
        refine ⟨_, rfl, lg, _, rfl, .inl ⟨.of tf27.gl, fun q8 n8 => ?_⟩⟩
        have s28 := same_new (o := .tup [x0, x1]) n8
        have tf28 := tf27.same s28
        have hx28 := (hx26.same s27).same s28
        refine ⟨_, rfl, q7, q8, yt, _, _, _, _, x, rfl, tf28.sys G (s28 _ _ upd_same) upd_same, hx28, xl.trans G.bk.alen.symm, xz.mono (by decide), xd0, xd1, fun H29 e29 => ?_⟩
        have tf29 := tf28.same e29
        have hx29 := hx28.same e29
        refine ⟨_, _, rfl, rfl, _, rfl, iteBF (by decide) ?_⟩
        -- twice
        refine ⟨_, rfl, _, rfl, _, rfl, by show 2 ≤ sizeLine; decide, fun t1 nt1 => ?_⟩
        have s30 := same_new (o := .tup [.int 2, .int 1]) nt1
        have c30 : Fr K (upd H29 t1 (.tup [.int 2, .int 1])) (.ref t1) 2 := ⟨t1, rfl, .of upd_same⟩
        have tf30 := tf29.same s30
        have hx30 := hx29.same s30
        generalize upd H29 t1 (.tup [.int 2, .int 1]) = H30 at s30 c30 tf30 hx30 ⊢
        refine ⟨_, rfl, lg, _, 0, _, rfl, rfl, .of tf30.gl, atI_zero, _, _, 2, worthF r w' v, rfl, c30, tf30.f0, sz_small sz_two (by decide), sz_small G.sg (by decide), trivial, fun u0 H31 e31 g31 => ?_⟩
        have tf31 := tf30.same e31
        have hx31 := hx30.same e31
        refine ⟨by show 2 ≤ sizeLine; decide, fun t2 nt2 => ?_⟩
        have s32 := same_new (o := .tup [.int 2, .int 1]) nt2
        have c32 : Fr K (upd H31 t2 (.tup [.int 2, .int 1])) (.ref t2) 2 := ⟨t2, rfl, .of upd_same⟩
        have tf32 := tf31.same s32
        have hx32 := hx31.same s32
        have g32 := g31.same s32
        generalize upd H31 t2 (.tup [.int 2, .int 1]) = H32 at s32 c32 tf32 hx32 g32 ⊢
        refine ⟨_, rfl, lg, _, 1, _, rfl, rfl, .of tf32.gl, atI_one, _, _, 2, slopeF r w' v, rfl, c32, tf32.f1, sz_small sz_two (by decide), sz_small G.sh (by decide), trivial, fun u1 H33 e33 g33 => ?_⟩
        have tf33 := tf32.same e33
        have hx33 := hx32.same e33
        refine ⟨_, _, _, _, _, L, ws, v, 2 * worthF r w' v, 2 * slopeF r w' v, rfl, tf33.rows, tf33.rests, tf33.fv, g32.same e33, g33, G.bk, sz2 G.sg, sz2 G.sh, fun y12 H34 e34 o34 => ?_⟩
        have tf34 := tf33.same e34
        have hx34 := hx33.same e34
        obtain ⟨y, hy⟩ := Option.ne_none_iff_exists'.mp (G.twice ho)
        obtain ⟨yl, yz, yd0, yd1⟩ := G.bk.told (sz2 G.sg) (sz2 G.sh) hy
        rw [hy] at o34
        have hy34 : TupF K H34 y12 y := o34
        -- due
        refine ⟨_, rfl, lg, rfl, ⟨_, .of tf34.gl⟩, fun D5 nD5 => ?_⟩
        refine due_ok (c := 2) (n := 2) (by decide) (by decide) sz_two nD5 tf34.gl tf34.f0 tf34.f1 G.sg G.sh (fun H35 e35 l35 => ?_) rfl
        have tf35 := tf34.same e35
        have hx35 := hx34.same e35
        have hy35 := hy34.same e35
        refine ⟨_, rfl, rfl, _, rfl, iteBF (optT_dec o34) ?_⟩
        refine ⟨_, rfl, _, rfl, _, rfl, _, rfl, _, _, _, _, L, ws, v, y, rfl, tf35.rows, tf35.rests, tf35.fv, hy35, G.bk, yl, yz.mono (by decide), fun p36 H36 e36 l36 => ?_⟩
        rw [yd0, yd1] at l36
        have tf36 := tf35.same e36
        have hx36 := hx35.same e36
        have hy36 := hy35.same e36
        refine ⟨_, rfl, _, _, l36.dp, (l35.same e36).dp, lstD_shaped _ _, lstD_shaped _ _, _, rfl, iteBF (by rw [lstD_eqv]; rfl) ?_⟩
        -- both
        obtain ⟨xa, xvs, q9, hX, fX⟩ := id hx36
        obtain ⟨ya, yvs, q10, hY, fY⟩ := id hy36
        subst q9 q10
        refine ⟨_, rfl, _, rfl, xa, ya, xvs, yvs, rfl, .inr ⟨hX, hY, fun D6 nD6 => ?_⟩⟩
        have l3' := G.len3
        have xyl : x.length = y.length := xl.trans yl.symm
        refine both_ok hX hY fX fY xyl (by omega) xz yz nD6 (fun H37 e37 l37 => ?_) rfl
        obtain ⟨bvs, hD6, hb⟩ := l37
        refine ⟨D6, bvs, rfl, .inl ⟨.of hD6, fun tc ntc => ?_⟩⟩
        have s38 := e37.trans (same_new (o := .tup bvs) ntc)
        have hb38 : TupF K (upd H37 tc (.tup bvs)) (.ref tc) (bothF x y) := ⟨tc, bvs, rfl, .of upd_same, hb.same (same_new ntc)⟩
        have tf38 := tf36.same s38
        generalize upd H37 tc (.tup bvs) = H38 at s38 hb38 tf38 ⊢
        refine ⟨_, rfl, _, rfl, _, rfl, _, rfl, _, _, _, _, L, ws, v, bothF x y, rfl, tf38.rows, tf38.rests, tf38.fv, hb38, G.bk, (both_len xyl).trans xl, both_sz xz yz, fun p39 H39 e39 l39 => ?_⟩
        rw [both_dot xyl xd0 yd0, both_dot xyl xd1 yd1] at l39
        have tf39 := tf38.same e39
        refine ⟨_, rfl, lg, rfl, ⟨_, .of tf39.gl⟩, fun D7 nD7 => ?_⟩
        refine due_ok (c := 3) (n := 3) (by decide) (by decide) sz_three nD7 tf39.gl tf39.f0 tf39.f1 G.sg G.sh (fun Hn en l40 => ?_) rfl
        have tfn := tf39.same en
        refine ⟨_, _, (l39.same en).dp, l40.dp, lstD_shaped _ _, lstD_shaped _ _, _, rfl, iteBF (by rw [lstD_eqv]; rfl) ?_⟩
        -- wider
        obtain ⟨_, avs3, q3, hSq, al, af⟩ := id tfn.rows
        cases q3
        obtain ⟨_, rvs3, q3, hRq, rf⟩ := id tfn.rests
        cases q3
        have al : avs3.length = L.length := al
        have l1 := G.bk.len1
        have l3 := G.len3
        have lw := G.bk.len
        have rl : rvs3.length = ws.length := rf.len
        have ane : avs3 ≠ [] := fun e => by rw [e] at al; rw [← al] at l1; exact absurd l1 (by decide)
        have rne : rvs3 ≠ [] := fun e => by rw [e] at rl; rw [← lw, ← rl] at l1; exact absurd l1 (by decide)
        refine ⟨_, rfl, _, rfl, by show 1 ≤ sizeLine; decide, fun d1 nd1 => ?_⟩
        have w1 := same_new (o := .tup [vd]) nd1
        refine ⟨ts, d1, avs3, [vd], rfl, rfl, sqT_tk (.same w1) hSq, .of upd_same, ane, Nat.le_of_lt (small1000 (by show avs3.length + 1 ≤ 1000; omega)), (fun h => by cases h), fun _ c1 nc1 => ?_⟩
        have w2 := w1.trans (same_new (o := .tup (avs3 ++ [vd])) nc1)
        have rw2 : RowsF K (upd (upd Hn d1 (.tup [vd])) c1 (.tup (avs3 ++ [vd]))) (.ref c1) (L ++ [r]) := rows_snoc (.of upd_same) al (fun j u q h1 h2 => (af j u q h1 h2).same w2) (tfn.fd.same w2)
        have tf2 := tfn.same w2
        generalize upd (upd Hn d1 (.tup [vd])) c1 (.tup (avs3 ++ [vd])) = Hm at w2 rw2 tf2 ⊢
        refine ⟨_, rfl, _, rfl, by show 1 ≤ sizeLine; decide, fun d2 nd2 => ?_⟩
        have w3 := same_new (o := .tup [xw]) nd2
        refine ⟨tr, d2, rvs3, [xw], rfl, rfl, sqT_tk (.same (w2.trans w3)) hRq, .of upd_same, rne, Nat.le_of_lt (small1000 (by show rvs3.length + 1 ≤ 1000; omega)), (fun h => by cases h), fun _ c2 nc2 => ?_⟩
        have w4 := w3.trans (same_new (o := .tup (rvs3 ++ [xw])) nc2)
        have rs4 : TupF K (upd (upd Hm d2 (.tup [xw])) c2 (.tup (rvs3 ++ [xw]))) (.ref c2) (ws ++ [w']) := ⟨c2, _, rfl, .of upd_same, (rf.same (w2.trans w4)).snoc (tf2.fw.same w4)⟩
        have rw4 := rw2.same w4
        have tf4 := tf2.same w4
        generalize upd (upd Hm d2 (.tup [xw])) c2 (.tup (rvs3 ++ [xw])) = Hk at w4 rs4 rw4 tf4 ⊢
        refine ⟨_, rfl, _, rfl, lg, _, 0, _, rfl, rfl, .of tf4.gl, atI_zero, _, rfl, lg, _, 1, _, rfl, rfl, .of tf4.gl, atI_one, ?_⟩
        refine ⟨_, _, _, _, _, L ++ [r], ws ++ [w'], v, _, _, rfl, rw4, rs4, tf4.fv, tf4.f0, tf4.f1, G.wide, sz0 G.sg, sz0 G.sh, fun yw Hj ej oj => ?_⟩
        obtain ⟨xs, hxs⟩ := Option.ne_none_iff_exists'.mp G.wider
        obtain ⟨xl, xz, xd0, xd1⟩ := G.wide.told (sz0 G.sg) (sz0 G.sh) hxs
        rw [hxs] at oj
        have tf5 := tf4.same ej
        have w5 := (w2.trans w4).trans ej
        refine ⟨_, rfl, rfl, _, rfl, iteBF (optT_dec oj) ?_⟩
        refine ⟨_, rfl, _, rfl, by show 1 ≤ sizeLine; decide, fun d3 nd3 => ?_⟩
        have w6 := same_new (o := .tup [vd]) nd3
        refine ⟨ts, d3, avs3, [vd], rfl, rfl, sqT_tk (.same (w5.trans w6)) hSq, .of upd_same, ane, Nat.le_of_lt (small1000 (by show avs3.length + 1 ≤ 1000; omega)), (fun h => by cases h), fun _ c3 nc3 => ?_⟩
        have w7 := w6.trans (same_new (o := .tup (avs3 ++ [vd])) nc3)
        have rw7 : RowsF K (upd (upd Hj d3 (.tup [vd])) c3 (.tup (avs3 ++ [vd]))) (.ref c3) (L ++ [r]) := rows_snoc (.of upd_same) al (fun j u q h1 h2 => (af j u q h1 h2).same (w5.trans w7)) (tf5.fd.same w7)
        have tf7 := tf5.same w7
        have oj7 : TupF K (upd (upd Hj d3 (.tup [vd])) c3 (.tup (avs3 ++ [vd]))) yw xs := TupF.same w7 oj
        generalize upd (upd Hj d3 (.tup [vd])) c3 (.tup (avs3 ++ [vd])) = Hi at w7 rw7 tf7 oj7 ⊢
        refine ⟨_, rfl, _, rfl, by show 1 ≤ sizeLine; decide, fun d4 nd4 => ?_⟩
        have w8 := same_new (o := .tup [xw]) nd4
        refine ⟨tr, d4, rvs3, [xw], rfl, rfl, sqT_tk (.same ((w5.trans w7).trans w8)) hRq, .of upd_same, rne, Nat.le_of_lt (small1000 (by show rvs3.length + 1 ≤ 1000; omega)), (fun h => by cases h), fun _ c4 nc4 => ?_⟩
        have w9 := w8.trans (same_new (o := .tup (rvs3 ++ [xw])) nc4)
        have rs9 : TupF K (upd (upd Hi d4 (.tup [xw])) c4 (.tup (rvs3 ++ [xw]))) (.ref c4) (ws ++ [w']) := ⟨c4, _, rfl, .of upd_same, (rf.same ((w5.trans w7).trans w9)).snoc (tf7.fw.same w9)⟩
        have rw9 := rw7.same w9
        have tf9 := tf7.same w9
        have oj9 := oj7.same w9
        generalize upd (upd Hi d4 (.tup [xw])) c4 (.tup (rvs3 ++ [xw])) = Hh at w9 rs9 rw9 tf9 oj9 ⊢
        refine ⟨_, rfl, _, rfl, _, _, _, _, L ++ [r], ws ++ [w'], v, xs, rfl, rw9, rs9, tf9.fv, oj9, G.wide, xl, xz.mono (by decide), fun p Hg eg lg9 => ?_⟩
        rw [xd0, xd1] at lg9
        have tf10 := tf9.same eg
        refine ⟨_, rfl, _, _, lg9.dp, tf10.gls.dp, lstD_shaped _ _, lstD_shaped _ _, _, rfl, iteBF (by rw [lstD_eqv]; rfl) ?_⟩
        exact ⟨_, _, _, _, _, _, _, _, _, _, _, _, _, _, rfl, tf10.pn⟩
    · rintro σ H2 ⟨y2, y3, y4, y5, y6, y7, y8, y9, y10, y11, y12, y13, y14, y15, rfl, p2⟩
      exact kk H2
end
end BR
end
section
set_option Elab.async false
set_option linter.all false
set_option maxRecDepth 100000
set_option maxHeartbeats 4000000
namespace BR
open PySem PySem.Spec PyProof.Rows L2
/-- def number i of the top, as the heap has it -/
def HasK (K : PySem.W.Frag) (x : Str) (i : Nat) : Prop := ∃ (f : Addr) (oc kV dc pm cd ct : Value) (od an : Option Addr) (sl : Array (Option Value)),
  PySem.W.nsIn K mainGlobals x = some (some (.ref f)) ∧ K.lookup f = some ⟨oc, od, .func (PySem.W.fnOf x x (defArgs (topS i)) (defBody (topS i)) (defScope (topS i)) .none kV dc pm an cd ct), sl⟩ ∧ PySem.W.codeIn K cd x = true ∧ PySem.W.keepIn K (.ref f) = true
theorem hasK_mk {K : PySem.W.Frag} {x : Str} {i : Nat} {f : Addr} {oc kV dc pm cd ct : Value} {od an : Option Addr} {sl : Array (Option Value)}
    (a : PySem.W.nsIn K mainGlobals x = some (some (.ref f))) (l : K.lookup f = some ⟨oc, od, .func (PySem.W.fnOf x x (defArgs (topS i)) (defBody (topS i)) (defScope (topS i)) .none kV dc pm an cd ct), sl⟩) (c : PySem.W.codeIn K cd x = true) (k : PySem.W.keepIn K (.ref f) = true) : HasK K x i :=
  ⟨f, oc, kV, dc, pm, cd, ct, od, an, sl, a, l, c, k⟩
theorem HasK.has {K : PySem.W.Frag} {h : Heap} {mg : Str → Option Value} {x : Str} {i : Nat} (X : K.In h) (G : h.Ns mainGlobals mg) (t : HasK K x i) : Has K mg x (topS i) := by
  obtain ⟨f, oc, kV, dc, pm, cd, ct, od, an, sl, a, l, c, k⟩ := t
  exact ⟨f, _, PySem.W.mg_of X G a, fun_mk (st := topS i) l c k⟩
/-- a constant tuple of two ints -/
def HasC (K : PySem.W.Frag) (x : Str) (n m : Int) : Prop := ∃ (z : Addr) (od : Option Addr) (t u : Tok) (k : Nat) (sl : Array (Option Value)),
  PySem.W.nsIn K mainGlobals x = some (some (.ref z)) ∧ K.lookup z = some ⟨.type "tuple", od, .seq #[.int n t, .int m u] k, sl⟩
theorem hasC_mk {K : PySem.W.Frag} {x : Str} {n m : Int} {z : Addr} {od : Option Addr} {t u : Tok} {k : Nat} {sl : Array (Option Value)}
    (a : PySem.W.nsIn K mainGlobals x = some (some (.ref z))) (l : K.lookup z = some ⟨.type "tuple", od, .seq #[.int n t, .int m u] k, sl⟩) : HasC K x n m := ⟨z, od, t, u, k, sl, a, l⟩
theorem HasC.has {K : PySem.W.Frag} {h : Heap} {mg : Str → Option Value} {x : Str} {n m : Int} (X : K.In h) (G : h.Ns mainGlobals mg) (c : HasC K x n m) : ∃ z, mg x = some (.ref z) ∧ ∀ H, SqT K H z [.int n, .int m] := by
  obtain ⟨z, od, t, u, k, sl, a, l⟩ := c
  exact ⟨z, PySem.W.mg_of X G a, fun H => .inr ⟨_, _, k, l, rfl, rfl, by show 2 ≤ sizeLine; decide, .cons ⟨t, rfl⟩ (.cons ⟨u, rfl⟩ .nil)⟩⟩
structure AllK (K : PySem.W.Frag) : Prop where
  cZERO : HasC K "ZERO" 0 1
  cONE : HasC K "ONE" 1 1
  divisor : HasK K "divisor" 3
  fraction : HasK K "fraction" 4
  isFraction : HasK K "is_fraction" 5
  areFractions : HasK K "are_fractions" 6
  plus : HasK K "plus" 7
  minus : HasK K "minus" 8
  times : HasK K "times" 9
  over : HasK K "over" 10
  sumAll : HasK K "sum_all" 11
  dot : HasK K "dot" 12
  trimmed : HasK K "trimmed" 14
  valueAt : HasK K "value_at" 15
  derivative : HasK K "derivative" 16
  discount : HasK K "discount" 18
  worth : HasK K "worth" 19
  slope : HasK K "slope" 21
  unit : HasK K "unit" 23
  lessened : HasK K "lessened" 24
  reduced : HasK K "reduced" 25
  solution : HasK K "solution" 26
  bar : HasK K "bar" 27
  isSolution : HasK K "is_solution" 28
  isBar : HasK K "is_bar" 29
  hedge : HasK K "hedge" 30
  lOpen : HasK K "_law_open" 32
  lSpread : HasK K "_law_spread" 33
  lTake : HasK K "_law_take" 34
  lOneOf : HasK K "_law_one_of" 35
  lGcd : HasK K "_law_gcd" 36
  lFraction : HasK K "_law_fraction" 37
  lDrawFraction : HasK K "_law_draw_fraction" 38
  lDrawSmall : HasK K "_law_draw_small" 39
  lDrawRow : HasK K "_law_draw_row" 40
  lDrawRest : HasK K "_law_draw_rest" 41
  lDrawFactor : HasK K "_law_draw_factor_above" 42
  lSums : HasK K "_law_sums" 43
  law : HasK K "law" 44
  bAbs : PySem.W.nsIn K mainGlobals "abs" = some none
  bLen : PySem.W.nsIn K mainGlobals "len" = some none
  bTuple : PySem.W.nsIn K mainGlobals "tuple" = some none
  bList : PySem.W.nsIn K mainGlobals "list" = some none
  bAll : PySem.W.nsIn K mainGlobals "all" = some none
  bAny : PySem.W.nsIn K mainGlobals "any" = some none
  bMin : PySem.W.nsIn K mainGlobals "min" = some none
  bZip : PySem.W.nsIn K mainGlobals "zip" = some none
  bRange : PySem.W.nsIn K mainGlobals "range" = some none
  bEnumerate : PySem.W.nsIn K mainGlobals "enumerate" = some none
  bReversed : PySem.W.nsIn K mainGlobals "reversed" = some none
  bIsinstance : PySem.W.nsIn K mainGlobals "isinstance" = some none
  bInt : PySem.W.nsIn K mainGlobals "int" = some none
  bBool : PySem.W.nsIn K mainGlobals "bool" = some none
theorem AllK.tx {P : Program} {K : PySem.W.Frag} {h : Heap} {mg : Str → Option Value} {base : Heap} (a : AllK K) (X : K.In h) (G : h.Ns mainGlobals mg) (ht : P.given.tree = none) (hs : base.NoSeer) : Tx P K mg base where
  tree := ht
  seer := hs
  zero := a.cZERO.has X G
  one := a.cONE.has X G
  bAbs := PySem.W.mg_none_of X G a.bAbs
  bLen := PySem.W.mg_none_of X G a.bLen
  bTuple := PySem.W.mg_none_of X G a.bTuple
  bList := PySem.W.mg_none_of X G a.bList
  bAll := PySem.W.mg_none_of X G a.bAll
  bAny := PySem.W.mg_none_of X G a.bAny
  bMin := PySem.W.mg_none_of X G a.bMin
  bZip := PySem.W.mg_none_of X G a.bZip
  bRange := PySem.W.mg_none_of X G a.bRange
  bEnumerate := PySem.W.mg_none_of X G a.bEnumerate
  bReversed := PySem.W.mg_none_of X G a.bReversed
  bIsinstance := PySem.W.mg_none_of X G a.bIsinstance
  bInt := PySem.W.mg_none_of X G a.bInt
  bBool := PySem.W.mg_none_of X G a.bBool
  divisor := a.divisor.has X G
  fraction := a.fraction.has X G
  isFraction := a.isFraction.has X G
  areFractions := a.areFractions.has X G
  plus := a.plus.has X G
  minus := a.minus.has X G
  times := a.times.has X G
  over := a.over.has X G
  sumAll := a.sumAll.has X G
  dot := a.dot.has X G
  trimmed := a.trimmed.has X G
  valueAt := a.valueAt.has X G
  derivative := a.derivative.has X G
  discount := a.discount.has X G
  worth := a.worth.has X G
  slope := a.slope.has X G
  unit := a.unit.has X G
  lessened := a.lessened.has X G
  reduced := a.reduced.has X G
  solution := a.solution.has X G
  bar := a.bar.has X G
  isSolution := a.isSolution.has X G
  isBar := a.isBar.has X G
  hedge := a.hedge.has X G
  lOpen := a.lOpen.has X G
  lSpread := a.lSpread.has X G
  lTake := a.lTake.has X G
  lOneOf := a.lOneOf.has X G
  lGcd := a.lGcd.has X G
  lFraction := a.lFraction.has X G
  lDrawFraction := a.lDrawFraction.has X G
  lDrawSmall := a.lDrawSmall.has X G
  lDrawRow := a.lDrawRow.has X G
  lDrawRest := a.lDrawRest.has X G
  lDrawFactor := a.lDrawFactor.has X G
  lSums := a.lSums.has X G
theorem all_mk {l : PySem.W.OpenLaw} {w : World} {K : PySem.W.Frag} {h : Heap} {mg : Str → Option Value} {fa : Addr} (X : K.In h) (G : h.Ns mainGlobals mg) (hfa : mg "law" = some (.ref fa)) (ht : l.prog.given.tree = none) (a : AllK K) :
    ∃ fd : FuncData, (∀ (s : Shared) (v : Value), BindsTo s fd ⟨[v], []⟩ [("_law_script", v)]) ∧ ∀ base : Heap, K.In base → base.Ns mainGlobals mg → base.NoSeer → FnOk l.prog w K mg base CX0 47 fa fd ["_law_script"] (spLaw K) := by
  obtain ⟨f, oc, kV, dc, pm, cd, ct, od, an, sl, a1, l1, c1, k1⟩ := a.law
  have e := hfa.symm.trans (PySem.W.mg_of X G a1)
  cases e
  exact ⟨_, fun s v => .of_eq rfl, fun base _ _ hs => d_law (a.tx X G ht hs) (fun_mk (st := topS 44) l1 c1 k1)⟩
theorem walk {l : PySem.W.OpenLaw} {q : Program} {loose : List Str} {XP : (Str → Option Value) → Heap → Prop} {YP : World → Heap → Prop} {d : DefRec} {K : Params → PySem.W.Frag} (hq : importsNone q = true) (hn : l.most = some 63) (hdf : d.params.defaults = [])
    (hY : ∀ (w : World) (h : Heap), YP w h → (K w.params).In h)
    (F : ∀ (w : World) (mg : Str → Option Value) (fa : Addr) (h : Heap), (K w.params).In h → h.Ns mainGlobals mg → mg d.name = some (.ref fa) →
      ∃ fd : FuncData, (∀ (s : Shared) (u : Value), BindsTo s fd ⟨[u], []⟩ [("_law_script", u)]) ∧ ∀ base : Heap, (K w.params).In base → base.Ns mainGlobals mg → base.NoSeer → FnOk l.prog w (K w.params) mg base CX0 47 fa fd ["_law_script"] (spLaw (K w.params))) :
    PySem.W.WalkO q loose XP YP l.row.toRowW d [] (fun f vs => PySem.call f vs) :=
  walk_ofS (n := 63) (k := 47) (x := "_law_script") (CX := fun _ => CX0) (sp := fun w => spLaw (K w.params)) hq hn (by decide) hdf ⟨rfl, by decide, by decide⟩ hY F (fun _ _ a ns hl _ hS => ⟨a, ns, rfl, hS, hl, fun _ => rfl⟩) fun _ _ _ _ _ z => z
end BR
end
set_option Elab.async false
set_option maxRecDepth 100000

open PySem PySem.W PyProof.Rows in
set_option maxRecDepth 100000 in
set_option maxHeartbeats 0 in
theorem PySem.Challenge.cw_bondroots_k48_whole_hedged_debts_holds : PySem.Challenge.rw_bondroots_k48_whole_hedged_debts.Holds := by
  w_on; o_law; k_head; (case hw => w_witness2)
  k_fill
  refine BR.walk (l := PySem.Challenge.rw_bondroots_k48_whole_hedged_debts) ?hq rfl rfl (fun w h Y => PySem.W.kIn_of Y) ?F
  case hq => decide +kernel
  case F =>
    intro w mg fa h KX G hmg
    refine' BR.all_mk KX G hmg rfl ⟨(BR.hasC_mk ?cZEROa ?cZEROl), (BR.hasC_mk ?cONEa ?cONEl), (BR.hasK_mk ?divisora ?divisorl ?divisorc ?divisork), (BR.hasK_mk ?fractiona ?fractionl ?fractionc ?fractionk), (BR.hasK_mk ?isFractiona ?isFractionl ?isFractionc ?isFractionk), (BR.hasK_mk ?areFractionsa ?areFractionsl ?areFractionsc ?areFractionsk), (BR.hasK_mk ?plusa ?plusl ?plusc ?plusk), (BR.hasK_mk ?minusa ?minusl ?minusc ?minusk), (BR.hasK_mk ?timesa ?timesl ?timesc ?timesk), (BR.hasK_mk ?overa ?overl ?overc ?overk), (BR.hasK_mk ?sumAlla ?sumAlll ?sumAllc ?sumAllk), (BR.hasK_mk ?dota ?dotl ?dotc ?dotk), (BR.hasK_mk ?trimmeda ?trimmedl ?trimmedc ?trimmedk), (BR.hasK_mk ?valueAta ?valueAtl ?valueAtc ?valueAtk), (BR.hasK_mk ?derivativea ?derivativel ?derivativec ?derivativek), (BR.hasK_mk ?discounta ?discountl ?discountc ?discountk), (BR.hasK_mk ?wortha ?worthl ?worthc ?worthk), (BR.hasK_mk ?slopea ?slopel ?slopec ?slopek), (BR.hasK_mk ?unita ?unitl ?unitc ?unitk), (BR.hasK_mk ?lesseneda ?lessenedl ?lessenedc ?lessenedk), (BR.hasK_mk ?reduceda ?reducedl ?reducedc ?reducedk), (BR.hasK_mk ?solutiona ?solutionl ?solutionc ?solutionk), (BR.hasK_mk ?bara ?barl ?barc ?bark), (BR.hasK_mk ?isSolutiona ?isSolutionl ?isSolutionc ?isSolutionk), (BR.hasK_mk ?isBara ?isBarl ?isBarc ?isBark), (BR.hasK_mk ?hedgea ?hedgel ?hedgec ?hedgek), (BR.hasK_mk ?lOpena ?lOpenl ?lOpenc ?lOpenk), (BR.hasK_mk ?lSpreada ?lSpreadl ?lSpreadc ?lSpreadk), (BR.hasK_mk ?lTakea ?lTakel ?lTakec ?lTakek), (BR.hasK_mk ?lOneOfa ?lOneOfl ?lOneOfc ?lOneOfk), (BR.hasK_mk ?lGcda ?lGcdl ?lGcdc ?lGcdk), (BR.hasK_mk ?lFractiona ?lFractionl ?lFractionc ?lFractionk), (BR.hasK_mk ?lDrawFractiona ?lDrawFractionl ?lDrawFractionc ?lDrawFractionk), (BR.hasK_mk ?lDrawSmalla ?lDrawSmalll ?lDrawSmallc ?lDrawSmallk), (BR.hasK_mk ?lDrawRowa ?lDrawRowl ?lDrawRowc ?lDrawRowk), (BR.hasK_mk ?lDrawResta ?lDrawRestl ?lDrawRestc ?lDrawRestk), (BR.hasK_mk ?lDrawFactora ?lDrawFactorl ?lDrawFactorc ?lDrawFactork), (BR.hasK_mk ?lSumsa ?lSumsl ?lSumsc ?lSumsk), (BR.hasK_mk ?lawa ?lawl ?lawc ?lawk), ?bAbs, ?bLen, ?bTuple, ?bList, ?bAll, ?bAny, ?bMin, ?bZip, ?bRange, ?bEnumerate, ?bReversed, ?bIsinstance, ?bInt, ?bBool⟩
    (case cZEROa => k_is)
    (case cZEROl => k_is)
    (case cONEa => k_is)
    (case cONEl => k_is)
    (case divisora => k_is)
    (case divisorl => k_is)
    (case divisorc => k_is)
    (case divisork => k_is)
    (case fractiona => k_is)
    (case fractionl => k_is)
    (case fractionc => k_is)
    (case fractionk => k_is)
    (case isFractiona => k_is)
    (case isFractionl => k_is)
    (case isFractionc => k_is)
    (case isFractionk => k_is)
    (case areFractionsa => k_is)
    (case areFractionsl => k_is)
    (case areFractionsc => k_is)
    (case areFractionsk => k_is)
    (case plusa => k_is)
    (case plusl => k_is)
    (case plusc => k_is)
    (case plusk => k_is)
    (case minusa => k_is)
    (case minusl => k_is)
    (case minusc => k_is)
    (case minusk => k_is)
    (case timesa => k_is)
    (case timesl => k_is)
    (case timesc => k_is)
    (case timesk => k_is)
    (case overa => k_is)
    (case overl => k_is)
    (case overc => k_is)
    (case overk => k_is)
    (case sumAlla => k_is)
    (case sumAlll => k_is)
    (case sumAllc => k_is)
    (case sumAllk => k_is)
    (case dota => k_is)
    (case dotl => k_is)
    (case dotc => k_is)
    (case dotk => k_is)
    (case trimmeda => k_is)
    (case trimmedl => k_is)
    (case trimmedc => k_is)
    (case trimmedk => k_is)
    (case valueAta => k_is)
    (case valueAtl => k_is)
    (case valueAtc => k_is)
    (case valueAtk => k_is)
    (case derivativea => k_is)
    (case derivativel => k_is)
    (case derivativec => k_is)
    (case derivativek => k_is)
    (case discounta => k_is)
    (case discountl => k_is)
    (case discountc => k_is)
    (case discountk => k_is)
    (case wortha => k_is)
    (case worthl => k_is)
    (case worthc => k_is)
    (case worthk => k_is)
    (case slopea => k_is)
    (case slopel => k_is)
    (case slopec => k_is)
    (case slopek => k_is)
    (case unita => k_is)
    (case unitl => k_is)
    (case unitc => k_is)
    (case unitk => k_is)
    (case lesseneda => k_is)
    (case lessenedl => k_is)
    (case lessenedc => k_is)
    (case lessenedk => k_is)
    (case reduceda => k_is)
    (case reducedl => k_is)
    (case reducedc => k_is)
    (case reducedk => k_is)
    (case solutiona => k_is)
    (case solutionl => k_is)
    (case solutionc => k_is)
    (case solutionk => k_is)
    (case bara => k_is)
    (case barl => k_is)
    (case barc => k_is)
    (case bark => k_is)
    (case isSolutiona => k_is)
    (case isSolutionl => k_is)
    (case isSolutionc => k_is)
    (case isSolutionk => k_is)
    (case isBara => k_is)
    (case isBarl => k_is)
    (case isBarc => k_is)
    (case isBark => k_is)
    (case hedgea => k_is)
    (case hedgel => k_is)
    (case hedgec => k_is)
    (case hedgek => k_is)
    (case lOpena => k_is)
    (case lOpenl => k_is)
    (case lOpenc => k_is)
    (case lOpenk => k_is)
    (case lSpreada => k_is)
    (case lSpreadl => k_is)
    (case lSpreadc => k_is)
    (case lSpreadk => k_is)
    (case lTakea => k_is)
    (case lTakel => k_is)
    (case lTakec => k_is)
    (case lTakek => k_is)
    (case lOneOfa => k_is)
    (case lOneOfl => k_is)
    (case lOneOfc => k_is)
    (case lOneOfk => k_is)
    (case lGcda => k_is)
    (case lGcdl => k_is)
    (case lGcdc => k_is)
    (case lGcdk => k_is)
    (case lFractiona => k_is)
    (case lFractionl => k_is)
    (case lFractionc => k_is)
    (case lFractionk => k_is)
    (case lDrawFractiona => k_is)
    (case lDrawFractionl => k_is)
    (case lDrawFractionc => k_is)
    (case lDrawFractionk => k_is)
    (case lDrawSmalla => k_is)
    (case lDrawSmalll => k_is)
    (case lDrawSmallc => k_is)
    (case lDrawSmallk => k_is)
    (case lDrawRowa => k_is)
    (case lDrawRowl => k_is)
    (case lDrawRowc => k_is)
    (case lDrawRowk => k_is)
    (case lDrawResta => k_is)
    (case lDrawRestl => k_is)
    (case lDrawRestc => k_is)
    (case lDrawRestk => k_is)
    (case lDrawFactora => k_is)
    (case lDrawFactorl => k_is)
    (case lDrawFactorc => k_is)
    (case lDrawFactork => k_is)
    (case lSumsa => k_is)
    (case lSumsl => k_is)
    (case lSumsc => k_is)
    (case lSumsk => k_is)
    (case lawa => k_is)
    (case lawl => k_is)
    (case lawc => k_is)
    (case lawk => k_is)
    (case bAbs => k_is)
    (case bLen => k_is)
    (case bTuple => k_is)
    (case bList => k_is)
    (case bAll => k_is)
    (case bAny => k_is)
    (case bMin => k_is)
    (case bZip => k_is)
    (case bRange => k_is)
    (case bEnumerate => k_is)
    (case bReversed => k_is)
    (case bIsinstance => k_is)
    (case bInt => k_is)
    (case bBool => k_is)
