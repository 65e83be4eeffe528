import PyProof.Rows.All
import Wide.All
import OpenK.AllK
import Wide.FinOn
import PyProof.EqAt
import PyProof.EqKinds
import PyProof.TupleCall
import Open.SpecLaws
import KE.OsGo
import KE.KStateDown
import HandS.ForSpec
import HandS.Comp
import HandS.Dict
import HandS.Iter
import HandS.Text
import HandS.Walk
import HandS.Conv
import HandS.More
import HandS.SortInts
import HandS.TupSets
import HandS.Deep
import HandS.Zip
import HandS.ExcInit
import HandS.ExcField
import HandS.Defaults
import HandS.Head0
import HandS.Head1
import HandS.Head2
import HandS.HeadHook1
import HandS.HeadHook2
import PySem.Challenge.RW_bestkept_s01_answers
set_option Elab.async false
set_option linter.all false
set_option maxRecDepth 100000
set_option maxHeartbeats 4000000
namespace Bw
open PySem PySem.Spec PyProof.Rows L2
/-! ### the text -/
abbrev prg : Program := PySem.Challenge.rw_bestkept_s01_answers.prog
def top (i : Nat) : Stmt := PySem.Challenge.pw_bestkept_s01_answers.main.body.getD i (.Pass ⟨0, 0, 0, 0⟩)
/-! ### a def that stands under its name -/
structure Def (P : Program) (w : World) (K : PySem.W.Frag) (mg : Str → Option Value) (base : Heap) (CX : CXT) (k : Nat) (x : Str) (ps : List Str) (sp : Sp) : Prop where
  ex : ∃ (f : Addr) (fd : FuncData), FnOk P w K mg base CX k f fd ps sp ∧ mg x = some (.ref f) ∧ PySem.W.keepIn K (.ref f) = true ∧ Binds K fd ps []
section
variable {X : Cx} {k j : Nat} {x : Str} {ps : List Str} {sp : Sp} {p pos : Pos} {e : Expr} {es : List Expr} {t : TA} {W : WX}
theorem Def.call (D : Def X.prog X.w X.K X.mg X.base CX0 k x ps sp) (hr : Room j X.A) (hk : k ≤ j) (ha : PA X (e :: es) t) (hg : Gl X x := by rfl)
    (hdb : (x == ("__debug__" : Str)) = false := by decide) (he : starEach (e :: es) X.env = (false, eval e X.env) :: starEach es X.env := by rfl) (hpl : (backTo pos (starEach es X.env)).any (·.1) = false := by rfl) :
    PE X (.Call (.Name x p) (e :: es) [] pos) (tCall sp [] E0 t) := by
  obtain ⟨f, fd, F, hm, hkp, hb⟩ := D.ex
  exact pe_call F (hr.mono hk) hg hm hkp hb .nil pass0 ha hdb he hpl
theorem Def.callX (D : Def X.prog X.w X.K X.mg X.base (L2.CX X.prog X.w) k x ps sp) (hr : Room j X.A) (hk : k ≤ j) (tk : Takes X W) (ha : PA X (e :: es) t) (hg : Gl X x := by rfl)
    (hdb : (x == ("__debug__" : Str)) = false := by decide) (he : starEach (e :: es) X.env = (false, eval e X.env) :: starEach es X.env := by rfl) (hpl : (backTo pos (starEach es X.env)).any (·.1) = false := by rfl) :
    PE X (.Call (.Name x p) (e :: es) [] pos) (tCallS sp (WE W) t) := by
  obtain ⟨f, fd, F, hm, hkp, hb⟩ := D.ex
  exact pe_callS F (hr.mono hk) hg hm hkp hb (fun σ => passAt tk σ) ha hdb he hpl
end
/-! ### facts of the head -/
/-- an own class over ValueError with an __init__ of its own -/
def oexB (K : PySem.W.Frag) (C : Addr) : Bool := match K.lookup C with
  | some ⟨.type "type", _, .cls cd, sl⟩ => (match cd.mro, sl.toList with
    | .ref C' :: bm, [_, _, _, _, some (.builtin n), _] => C' == C && n == "ValueError.__new__" && !cd.hasDel && cd.hasDict && PySem.HandSPX.refsVE bm
    | _, _ => false)
  | _ => false
theorem oexB_ok {K : PySem.W.Frag} {C : Addr} (h : oexB K C = true) : ∃ nm q N bs bm sn sub ab col dd k0 k1 k2 k3 k5, K.lookup C = some (excClassObj nm q C N bs bm true sn sub ab col dd k0 k1 k2 k3 k5 "ValueError.__new__") ∧ PySem.HandSPX.refsVE bm = true := by
  unfold oexB at h
  split at h
  · rename_i dd cd sl ho
    split at h
    · rename_i C' bm k0 k1 k2 k3 n k5 hm hs
      simp only [Bool.and_eq_true, beq_iff_eq, Bool.not_eq_true'] at h
      obtain ⟨⟨⟨⟨rfl, rfl⟩, hdel⟩, hdc⟩, hr⟩ := h
      obtain ⟨nm, bs, mro, ns, qn, hd, sn, sub, ab, col, del⟩ := cd
      dsimp only at hm hdel hdc
      subst hm hdel hdc
      have hsl : sl = #[k0, k1, k2, k3, some (.builtin "ValueError.__new__"), k5] := by
        obtain ⟨l⟩ := sl
        simp only at hs
        rw [hs]
      subst hsl
      exact ⟨nm, qn, ns, bs, bm, sn, sub, ab, col, dd, k0, k1, k2, k3, k5, ho, hr⟩
    · cases h
  · cases h
/-- all of an own error's class -/
def excB (K : PySem.W.Frag) (x : Str) : Bool :=
  let C := He.ga K x
  oexB K C && (He.eqO (PySem.W.findIn K (.ref C) "__setattr__") (some (some (.builtin "object.__setattr__"))) && (decide (PySem.W.subIn K (.ref C) (.type "BaseException") = some true) &&
    (decide (PySem.W.typeIn K (.ref C) = some (.type "type")) && (PySem.W.keepIn K (.ref C) && (He.eqO (PySem.W.findIn K (.ref C) "__init__") (some (some (.ref (He.ma K C "__init__")))) &&
    (decide (PySem.W.typeIn K (.ref (He.ma K C "__init__")) = some (.type "function")) && (xfB K C && decide (PySem.W.exmOne K (.ref C) (.ref C) = some true))))))))
structure ExcT (K : PySem.W.Frag) (x : Str) : Prop where
  oc : OexC K (He.ga K x)
  iC : PySem.W.findIn K (.ref (He.ga K x)) "__init__" = some (some (.ref (He.ma K (He.ga K x) "__init__")))
  tI : PySem.W.typeIn K (.ref (He.ma K (He.ga K x) "__init__")) = some (.type "function")
  xf : XfC K (He.ga K x)
  me : PySem.W.exmOne K (.ref (He.ga K x)) (.ref (He.ga K x)) = some true
theorem excB_ok {K : PySem.W.Frag} {x : Str} (h : excB K x = true) : ExcT K x := by
  obtain ⟨h1, h⟩ := He.ba h
  obtain ⟨h2, h⟩ := He.ba h
  obtain ⟨h3, h⟩ := He.ba h
  obtain ⟨h4, h⟩ := He.ba h
  obtain ⟨h5, h⟩ := He.ba h
  obtain ⟨h6, h⟩ := He.ba h
  obtain ⟨h7, h⟩ := He.ba h
  obtain ⟨h8, h9⟩ := He.ba h
  exact ⟨⟨oexB_ok h1, He.eqO_ok h2, of_decide_eq_true h3, of_decide_eq_true h4, h5⟩, He.eqO_ok h6, of_decide_eq_true h7, xfB_ok h8, of_decide_eq_true h9⟩
/-! ### the Hook: HookD's facts and one Bool more, over the objects that the module's names, its functions and its classes reach -/
abbrev AlM : Type := He.AlD × Bool
def obsM (fa : List He.Fa) (fn : List He.DefD) (more : PySem.W.Frag → Bool) (K : PySem.W.Frag) : AlM := (He.obsD fa fn K, more K)
def valM (fn : List He.DefD) : AlM := (He.valD fn, true)
def SaysM (fa : List He.Fa) (fn : List He.DefD) (more : PySem.W.Frag → Bool) (K : PySem.W.Frag) : Prop := obsM fa fn more K = valM fn
def refsG (g : Addr → Option Obj) (a : Addr) : List Addr := match g a with
  | some o => He.refsO o
  | none => []
def codeG (g : Addr → Option Obj) (a : Addr) : List Addr := match g a with
  | some ⟨_, _, .func fd, _⟩ => He.refV fd.code
  | _ => []
def underG (g : Addr → Option Obj) (a : Addr) : List Addr := match g a with
  | some ⟨_, _, .func fd, _⟩ => He.refV fd.code
  | some ⟨_, _, .cls cd, _⟩ => cd.ns :: (refsG g cd.ns).flatMap fun m => m :: codeG g m
  | _ => []
def asK (g : Addr → Option Obj) : List Addr := mainGlobals :: ((refsG g mainGlobals) ++ (refsG g mainGlobals).flatMap (underG g))
/-- the objects at these addresses, one by one, then k of them -/
def colG {β : Type} (g : Addr → Option Obj) : List Addr → (PySem.W.Frag → β) → β
  | [], k => k []
  | a :: r, k => match g a with
    | some o => HandSHeadRun.frNat a fun a => colG g r fun K => k ((a, o) :: K)
    | none => colG g r k
theorem colG_eq {β : Type} (g : Addr → Option Obj) : ∀ (as : List Addr) (k : PySem.W.Frag → β), colG g as k = k (He.frG g as)
  | [], _ => rfl
  | a :: r, k => by
    unfold colG He.frG
    rw [List.filterMap_cons]
    cases g a with
    | some o =>
      show HandSHeadRun.frNat a (fun a => colG g r fun K => k ((a, o) :: K)) = k ((a, o) :: He.frG g r)
      rw [HandSHeadRun.frNat_eq, colG_eq g r]
    | none => exact colG_eq g r k
def hookM (fa : List He.Fa) (fn : List He.DefD) (more : PySem.W.Frag → Bool) : PySem.W.Hook where
  α := AlM
  obs := fun s => obsM fa fn more (He.frG s.heap.get? (asK s.heap.get?))
  val := fun _ => valM fn
  says := fun _ h => ∃ K : PySem.W.Frag, K.In h ∧ SaysM fa fn more K
  of := fun _ _ e => ⟨_, He.frG_in, e⟩
  keeps := fun _ _ _ ⟨K, hK, c⟩ k => ⟨K, PySem.W.Frag.In.keeps hK k, c⟩
theorem obsM_eq {fa : List He.Fa} {fn : List He.DefD} {more : PySem.W.Frag → Bool} {g : Addr → Option Obj} {s : Shared} (h : ∀ a, g a = s.heap.get? a) : obsM fa fn more (He.frG g (asK g)) = (hookM fa fn more).obs s := by
  have e : g = s.heap.get? := funext h
  rw [e] <;> rfl
theorem SaysM.d {fa : List He.Fa} {fn : List He.DefD} {more : PySem.W.Frag → Bool} {K : PySem.W.Frag} (c : SaysM fa fn more K) : He.SaysD fa fn K := congrArg (fun z : AlM => z.1) c
theorem SaysM.m {fa : List He.Fa} {fn : List He.DefD} {more : PySem.W.Frag → Bool} {K : PySem.W.Frag} (c : SaysM fa fn more K) : more K = true := congrArg (fun z : AlM => z.2) c
/-! ### the end of a Spec row over such a Hook -/
open PySem.W (WData Codec OpenSpec) in
theorem walk_specE {r : OpenSpec} {k : Nat} {q : Program} {loose : List Str} {XP : (Str → Option Value) → Heap → Prop} {YP : World → Heap → Prop} {d : DefRec} {CX : CXT} {ps : List Str} {sp : PySem.W.Frag → Sp}
    (hwell : r.wellSaid = true) (hlen : r.args.length = ps.length) (hr : Room k callerA)
    (F : ∀ (w : World) (mg : Str → Option Value) (fa : Addr) (h : Heap), YP w h → h.Ns mainGlobals mg → mg d.name = some (.ref fa) →
      ∃ (K : PySem.W.Frag) (fd : FuncData), K.In h ∧ (∀ (s : Shared) (us : List Value), us.length = ps.length → BindsTo s fd ⟨us, []⟩ (ps.zip us)) ∧
        ∀ base : Heap, K.In base → base.Ns mainGlobals mg → FnOk r.prog w K mg base CX k fa fd ps (sp K))
    (hsp : ∀ (K : PySem.W.Frag) (H : Hp) (xs : List V) (a : Codec.denoteAll r.args), OnlyF H → Codec.withinAll r.args a = true → Codec.app r.args r.asked a = true → DwAll K H xs (Codec.encAll r.args a) →
      sp K xs H (fun v H' => Dw K H' v (r.ret.enc (Codec.app r.args r.f a))) fun _ _ _ => False)
    (hCX : ∀ (H : Hp) (s : Shared) (e : Value) (s' : Shared), CX [] H s (fun _ _ _ => False) e s' → False) :
    PySem.W.WalkOS q loose XP YP r d [] (fun f vs => PySem.call f vs) := by
  intro w s₀ s₁ mg mb G Y fa o pm cd doc dV kV ho hd hcd hD hmg hg args vals as hpre hlay hrd hwl hlo
  obtain ⟨a, e1, e2⟩ := PySem.W.os_pre_some hpre
  obtain ⟨e3, hwi⟩ := Codec.encAll_of_decAll r.args args a e1
  subst e3
  obtain ⟨K, fd, KX, hb, hF⟩ := F w mg fa _ Y G.T.g hmg
  refine PySem.W.enter_call (codeAny_mono (spec_call (R := []) (cl := classAt s₀.heap) (d0 := r.ret.enc (Codec.app r.args r.f a)) KX G.T.g G.T.b G.T.builtins G.T.nolimit hg hwl (pl_encAll _ _) (layable_weight hlay) hr hF hb (by rw [encAll_len]; exact hlen)
    (fun H xs hO hS => hsp K H xs a hO hwi e2 hS) fun H e s' => hCX H s₁ e s') fun r' s' hq => ?_)
  obtain ⟨u, as', rfl, h1, h2, h3, h4⟩ := hq
  exact ⟨.inl ⟨u, _, as', rfl, fun _ => rfl, h1, (OpenSpec.post_iff hwell hwi _ _).mpr rfl, fun z => Bool.noConfusion (show false = true from z)⟩, h2, h3, h4⟩
end Bw
namespace Bk
/-! bits of numbers as sets -/
def memb (m k : Nat) : List Nat := (List.range m).filter fun g => k.testBit g
theorem mem_memb {m k g : Nat} : g ∈ memb m k ↔ g < m ∧ k.testBit g = true := by
  simp [memb, List.mem_filter, List.mem_range]
theorem memb_zero (m : Nat) : memb m 0 = [] := by
  simp [memb]
theorem memb_nodup (m k : Nat) : (memb m k).Nodup := (List.nodup_range).sublist (List.filter_sublist)
theorem memb_sorted (m k : Nat) : (memb m k).Pairwise (· < ·) := List.Pairwise.filter _ List.pairwise_lt_range

/-- least bit -/
def lb (k : Nat) : Nat := if h : k = 0 ∨ k % 2 = 1 then 0 else lb (k / 2) + 1
termination_by k
decreasing_by omega
theorem lb_spec : ∀ k : Nat, 0 < k → k.testBit (lb k) = true ∧ ∀ j, j < lb k → k.testBit j = false := by
  intro k
  induction k using Nat.strongRecOn with
  | _ k ih =>
    intro hk
    rw [lb]
    split
    · rename_i h
      have h1 : k % 2 = 1 := by omega
      refine ⟨?_, fun j hj => by omega⟩
      rw [Nat.testBit_zero]
      simp [h1]
    · rename_i h
      obtain ⟨a, b⟩ := ih (k / 2) (by omega) (by omega)
      refine ⟨?_, fun j hj => ?_⟩
      · rw [Nat.testBit_succ]; exact a
      · cases j with
        | zero => rw [Nat.testBit_zero]; simp; omega
        | succ j => rw [Nat.testBit_succ]; exact b j (by omega)
theorem lb_unique {k a : Nat} (h1 : k.testBit a = true) (h2 : ∀ j, j < a → k.testBit j = false) : lb k = a := by
  have hk : 0 < k := by
    rcases Nat.eq_zero_or_pos k with e | e
    · rw [e] at h1; simp at h1
    · exact e
  obtain ⟨p, q⟩ := lb_spec k hk
  rcases Nat.lt_trichotomy (lb k) a with h | h | h
  · rw [h2 _ h] at p; cases p
  · exact h
  · rw [q _ h] at h1; cases h1
theorem lb_lt {m k : Nat} (h0 : 0 < k) (hk : k < 2 ^ m) : lb k < m := by
  obtain ⟨p, _⟩ := lb_spec k h0
  rcases Nat.lt_or_ge (lb k) m with h | h
  · exact h
  · rw [Nat.testBit_lt_two_pow (Nat.lt_of_lt_of_le hk (Nat.pow_le_pow_right (by omega) h))] at p
    cases p
/-- taking a bit away -/
theorem two_pow_le_of_bit {k a : Nat} (h : k.testBit a = true) : 2 ^ a ≤ k := Nat.ge_two_pow_of_testBit h
theorem add_or : ∀ (a k : Nat), k.testBit a = false → k + 2 ^ a = k ||| 2 ^ a
  | 0, k, h => by
    rw [Nat.testBit_zero] at h
    have h0 : k % 2 = 0 := by
      have : ¬ k % 2 = 1 := by simpa using h
      omega
    apply Nat.eq_of_testBit_eq
    intro i
    cases i with
    | zero =>
      rw [Nat.testBit_or, Nat.testBit_zero, Nat.testBit_zero, Nat.testBit_zero]
      have h1 : (k + 2 ^ 0) % 2 = 1 := by simp; omega
      simp [h1]
    | succ i =>
      rw [Nat.testBit_or, Nat.testBit_succ, Nat.testBit_succ]
      have h1 : (k + 2 ^ 0) / 2 = k / 2 := by simp; omega
      have h2 : (2 ^ 0).testBit (i + 1) = false := by simp [Nat.testBit_succ]
      rw [h1, h2, Bool.or_false]
  | a + 1, k, h => by
    rw [Nat.testBit_succ] at h
    have ih := add_or a (k / 2) h
    apply Nat.eq_of_testBit_eq
    intro i
    have e2 : 2 ^ (a + 1) = 2 * 2 ^ a := by rw [Nat.pow_succ, Nat.mul_comm]
    cases i with
    | zero =>
      rw [Nat.testBit_or, Nat.testBit_zero, Nat.testBit_zero, Nat.testBit_zero]
      have h1 : (k + 2 ^ (a + 1)) % 2 = k % 2 := by omega
      have h2 : 2 ^ (a + 1) % 2 = 0 := by omega
      rw [h1, h2]; simp
    | succ i =>
      rw [Nat.testBit_or, Nat.testBit_succ, Nat.testBit_succ, Nat.testBit_succ]
      have h1 : (k + 2 ^ (a + 1)) / 2 = k / 2 + 2 ^ a := by omega
      have h2 : 2 ^ (a + 1) / 2 = 2 ^ a := by omega
      rw [h1, h2, ih, Nat.testBit_or]
theorem testBit_sub {k a : Nat} (h : k.testBit a = true) (j : Nat) : (k - 2 ^ a).testBit j = (k.testBit j && decide (j ≠ a)) := by
  have hle := two_pow_le_of_bit h
  have e : k = 2 ^ a + (k - 2 ^ a) := by omega
  have key : (k - 2 ^ a).testBit a = false := by
    have z := h
    rw [e, Nat.testBit_two_pow_add_eq] at z
    simpa using z
  have e2 : k = (k - 2 ^ a) ||| 2 ^ a := by
    have := add_or a (k - 2 ^ a) key
    omega
  generalize k - 2 ^ a = r at key e2
  rw [e2, Nat.testBit_or, Nat.testBit_two_pow]
  by_cases hj : a = j
  · subst hj; simp [key]
  · have hj2 : ¬ j = a := fun q => hj q.symm
    simp [hj, hj2]
theorem testBit_or_pow (k a j : Nat) : (k ||| 2 ^ a).testBit j = (k.testBit j || decide (j = a)) := by
  rw [Nat.testBit_or, Nat.testBit_two_pow]
  by_cases h : a = j
  · subst h; simp
  · have h2 : ¬ j = a := fun q => h q.symm
    simp [h, h2]
theorem or_eq_self {k a : Nat} : k ||| 2 ^ a = k ↔ k.testBit a = true := by
  constructor
  · intro h
    have := congrArg (fun z => z.testBit a) h
    simp only [testBit_or_pow] at this
    simpa using this.symm
  · intro h
    apply Nat.eq_of_testBit_eq
    intro i
    rw [testBit_or_pow]
    by_cases e : i = a
    · subst e; simp [h]
    · simp [e]
/-- the least member first -/
theorem filter_range_cons {m a : Nat} {p : Nat → Bool} (ha : a < m) (hp : p a = true) (hb : ∀ j, j < a → p j = false) :
    (List.range m).filter p = a :: (List.range m).filter (fun g => p g && decide (g ≠ a)) := by
  have e : m = a + (1 + (m - a - 1)) := by omega
  rw [e, List.range_add, List.filter_append, List.filter_append, Nat.add_comm 1, List.range_succ_eq_map]
  have h1 : (List.range a).filter p = [] := by
    rw [List.filter_eq_nil_iff]
    intro x hx
    rw [hb x (List.mem_range.mp hx)]; simp
  have h2 : (List.range a).filter (fun g => p g && decide (g ≠ a)) = [] := by
    rw [List.filter_eq_nil_iff]
    intro x hx
    rw [hb x (List.mem_range.mp hx)]; simp
  rw [h1, h2, List.nil_append, List.nil_append, List.map_cons, List.filter_cons, List.filter_cons, if_pos (by simpa using hp), if_neg (by simp)]
  congr 1
  apply List.filter_congr
  intro x hx
  have : x ≠ a := by
    rw [List.mem_map] at hx
    obtain ⟨y, hy, rfl⟩ := hx
    rw [List.mem_map] at hy
    obtain ⟨z, _, rfl⟩ := hy
    omega
  simp [this]
theorem memb_cons {m k : Nat} (h0 : 0 < k) (hk : k < 2 ^ m) : memb m k = lb k :: memb m (k - 2 ^ lb k) := by
  obtain ⟨p, q⟩ := lb_spec k h0
  unfold memb
  rw [filter_range_cons (lb_lt h0 hk) p q]
  congr 1
  apply List.filter_congr
  intro x _
  rw [testBit_sub p]
theorem sub_lb_lt {k : Nat} (h0 : 0 < k) : k - 2 ^ lb k < k := by
  have := two_pow_le_of_bit (lb_spec k h0).1
  have := Nat.two_pow_pos (lb k)
  omega
/-- a sum of powers is its number -/
theorem sum_memb (m : Nat) : ∀ k, k < 2 ^ m → ((memb m k).map fun g => 2 ^ g).sum = k := by
  intro k
  induction k using Nat.strongRecOn with
  | _ k ih =>
    intro hk
    rcases Nat.eq_zero_or_pos k with e | h0
    · subst e; rw [memb_zero]; rfl
    · have h1 := sub_lb_lt h0
      have := two_pow_le_of_bit (lb_spec k h0).1
      rw [memb_cons h0 hk, List.map_cons, List.sum_cons, ih _ h1 (by omega)]
      omega
/-- a number for each set -/
theorem exists_bits (p : Nat → Bool) : ∀ m, ∃ k, k < 2 ^ m ∧ ∀ g, g < m → k.testBit g = p g
  | 0 => ⟨0, by simp, fun g h => by omega⟩
  | m + 1 => by
    obtain ⟨k, hk, h⟩ := exists_bits p m
    by_cases hp : p m = true
    · refine ⟨k ||| 2 ^ m, ?_, fun g hg => ?_⟩
      · exact Nat.or_lt_two_pow (Nat.lt_of_lt_of_le hk (Nat.pow_le_pow_right (by omega) (by omega))) (Nat.pow_lt_pow_right (by omega) (by omega))
      · rw [testBit_or_pow]
        by_cases e : g = m
        · subst e; simp [hp]
        · rw [h g (by omega)]; simp [e]
    · refine ⟨k, Nat.lt_of_lt_of_le hk (Nat.pow_le_pow_right (by omega) (by omega)), fun g hg => ?_⟩
      by_cases e : g = m
      · subst e
        rw [Nat.testBit_lt_two_pow hk]
        simpa using hp
      · exact h g (by omega)
theorem or_lt {m k g : Nat} (hk : k < 2 ^ m) (hg : g < m) : k ||| 2 ^ g < 2 ^ m :=
  Nat.or_lt_two_pow hk (Nat.pow_lt_pow_right (by omega) hg)
theorem bits_ext {m a b : Nat} (ha : a < 2 ^ m) (hb : b < 2 ^ m) (h : ∀ g, g < m → a.testBit g = b.testBit g) : a = b := by
  apply Nat.eq_of_testBit_eq
  intro i
  rcases Nat.lt_or_ge i m with q | q
  · exact h i q
  · rw [Nat.testBit_lt_two_pow (Nat.lt_of_lt_of_le ha (Nat.pow_le_pow_right (by omega) q)), Nat.testBit_lt_two_pow (Nat.lt_of_lt_of_le hb (Nat.pow_le_pow_right (by omega) q))]
theorem memb_inj {m a b : Nat} (ha : a < 2 ^ m) (hb : b < 2 ^ m) (h : memb m a = memb m b) : a = b := by
  refine bits_ext ha hb fun g hg => ?_
  have e : g ∈ memb m a ↔ g ∈ memb m b := by rw [h]
  rw [mem_memb, mem_memb] at e
  cases q1 : a.testBit g <;> cases q2 : b.testBit g <;> simp_all
end Bk
namespace Bk
open Vamvsb (State Item Terms Price)
open Vamvsa (width sizeOf_ canFrom better reader costOf total sortedKept groupings columnsOf Grouping Kept)
abbrev Tb := Vamvsa.Table
/-- how many groupings -/
def mm (t : Tb) : Nat := 2 ^ width t
def sz (t : Tb) (g : Nat) : Nat := sizeOf_ t g
def cf (t : Tb) (q g : Nat) : Bool := canFrom (width t) g q
/-- what a question for q reads, of the groupings l -/
def mn (t : Tb) (q : Nat) (l : List Nat) : Nat := l.foldr (fun v c => if cf t q v = true then Nat.min (sz t v) c else c) t.rows.length
theorem mn_cons (t : Tb) (q v : Nat) (l : List Nat) : mn t q (v :: l) = if cf t q v = true then Nat.min (sz t v) (mn t q l) else mn t q l := rfl
/-! ### sizes -/
theorem putGroup_len (x : Vamvsa.Group) : ∀ l, (Vamvsa.putGroup x l).length ≤ l.length + 1
  | [] => Nat.le_refl _
  | y :: r => by
    unfold Vamvsa.putGroup
    split
    · simp
    · split
      · simp
      · have := putGroup_len x r
        simp only [List.length_cons]; omega
theorem collect_len (l : List Vamvsa.Group) : (Vamvsa.collect l).length ≤ l.length := by
  have key : ∀ (l acc : List Vamvsa.Group), (l.foldl (fun r x => Vamvsa.putGroup x r) acc).length ≤ acc.length + l.length := by
    intro l
    induction l with
    | nil => intro acc; simp
    | cons x r ih =>
      intro acc
      rw [List.foldl_cons]
      have := ih (Vamvsa.putGroup x acc)
      have := putGroup_len x acc
      simp only [List.length_cons]; omega
  have := key l []
  simp only [List.length_nil, Nat.zero_add] at this
  exact this
theorem sz_le (t : Tb) (g : Nat) : sz t g ≤ t.rows.length := by
  have := collect_len (t.rows.map fun r => ⟨Vamvsa.keyOf (width t) g r.vs, r.m, 1⟩)
  rw [List.length_map] at this
  exact this
/-! ### what is read, by the Spec's reader -/
def valO (t : Tb) (b : Option Nat) : Nat := match b with
  | none => t.rows.length
  | some v => sz t v
theorem min_min (a b c : Nat) : Nat.min (Nat.min a b) c = Nat.min a (Nat.min b c) := by
  show min (min a b) c = min a (min b c); omega
theorem fold_better (t : Tb) (q : Nat) : ∀ (l : List Nat) (b : Option Nat), valO t (l.foldl (better t q) b) = Nat.min (valO t b) (mn t q l)
  | [], b => by
    show valO t b = min (valO t b) t.rows.length
    cases b with
    | none => show t.rows.length = _; simp [valO]
    | some v => have := sz_le t v; show sz t v = min (sz t v) _; omega
  | v :: l, b => by
    rw [List.foldl_cons, fold_better t q l, mn_cons]
    by_cases h : cf t q v = true
    · rw [if_pos h]
      have h' : ¬ canFrom (width t) v q = false := by
        intro z
        have : cf t q v = false := z
        rw [this] at h; cases h
      have hb : better t q b v = match b with
        | none => some v
        | some u => if sizeOf_ t v < sizeOf_ t u then some v else some u := by
        unfold better; rw [if_neg h'] <;> rfl
      rw [hb, ← min_min]
      congr 1
      cases b with
      | none => have := sz_le t v; show sz t v = min t.rows.length (sz t v); omega
      | some u =>
        show valO t (if sizeOf_ t v < sizeOf_ t u then some v else some u) = min (sz t u) (sz t v)
        by_cases c : sizeOf_ t v < sizeOf_ t u
        · rw [if_pos c]; show sizeOf_ t v = min (sizeOf_ t u) (sizeOf_ t v); omega
        · rw [if_neg c]; show sizeOf_ t u = min (sizeOf_ t u) (sizeOf_ t v); omega
    · rw [if_neg h]
      have h' : canFrom (width t) v q = false := by
        have : ¬ canFrom (width t) v q = true := h
        simpa using this
      have hb : better t q b v = b := by unfold better; rw [if_pos h']
      rw [hb]
theorem mn_le (t : Tb) (q : Nat) : ∀ l, mn t q l ≤ t.rows.length
  | [] => Nat.le_refl _
  | v :: l => by
    rw [mn_cons]
    have := mn_le t q l
    split
    · show min _ _ ≤ _; omega
    · exact this
/-- the kept groupings of a told list, as a number's members -/
theorem sortedKept_of {t : Tb} {k : Kept} {K : Nat} (h : ∀ g, g < mm t → (k.contains g = true ↔ K.testBit g = true)) : sortedKept t k = memb (mm t) K := by
  unfold sortedKept groupings memb
  apply List.filter_congr
  intro g hg
  have hg' : g < mm t := List.mem_range.mp hg
  have e := h g hg'
  show (k.contains g) = K.testBit g
  cases q1 : k.contains g <;> cases q2 : K.testBit g <;> simp_all
theorem contains_memb {m K g : Nat} (hg : g < m) : ((memb m K).contains g = true ↔ K.testBit g = true) := by
  rw [List.contains_iff_mem, mem_memb]
  exact ⟨fun h => h.2, fun h => ⟨hg, h⟩⟩
theorem costOf_val {t : Tb} {k : Kept} {q : Nat} : costOf t k q = valO t (reader t k q) := by
  unfold costOf valO
  cases reader t k q <;> rfl
theorem costOf_eq {t : Tb} {k : Kept} {K : Nat} (h : sortedKept t k = memb (mm t) K) (q : Nat) : costOf t k q = mn t q (memb (mm t) K) := by
  rw [costOf_val, reader, h, fold_better]
  have := mn_le t q (memb (mm t) K)
  show min t.rows.length _ = _
  omega
/-- what all questions cost with the set K -/
def asked (t : Tb) (K : Nat) : Nat := (t.asks.map fun a => a.k * mn t a.g (memb (mm t) K)).sum
def lines (t : Tb) (K : Nat) : Nat := ((memb (mm t) K).map (sz t)).sum
def cnt (t : Tb) (K : Nat) : Nat := (memb (mm t) K).length
theorem total_eq {t : Tb} {k : Kept} {K : Nat} (h : sortedKept t k = memb (mm t) K) : total t k = asked t K := by
  unfold total asked
  congr 1
  apply List.map_congr_left
  intro a _
  rw [costOf_eq h]
theorem room_eq {t : Tb} {k : Kept} {K : Nat} (h : sortedKept t k = memb (mm t) K) : Vamvsa.room t k = lines t K := by
  unfold Vamvsa.room lines
  rw [h]; rfl
/-! ### the Spec's states -/
def item (t : Tb) (g : Nat) : Item := ⟨g, sz t g, t.asks.map fun a => cf t a.g g⟩
theorem items_eq (t : Tb) : Vamvsb.items t = (List.range (mm t)).map (item t) := rfl
/-- s stands for the set K (its groupings in any order) -/
structure StOf (t : Tb) (K : Nat) (s : State) : Prop where
  lt : K < 2 ^ mm t
  room : s.room = lines t K
  reads : s.reads = t.asks.map fun a => mn t a.g (memb (mm t) K)
  len : s.kept.length = cnt t K
  mem : ∀ g, g < mm t → (s.kept.contains g = true ↔ K.testBit g = true)
theorem StOf.first (t : Tb) : StOf t 0 (Vamvsb.firstState t) where
  lt := Nat.two_pow_pos _
  room := by unfold lines; rw [memb_zero]; rfl
  reads := by
    rw [memb_zero]; rfl
  len := by unfold cnt; rw [memb_zero]; rfl
  mem := fun g _ => by simp [Vamvsb.firstState]
/-- one more member, wherever -/
theorem sum_insert (f : Nat → Nat) {m K g : Nat} (hg : g < m) (hb : K.testBit g = false) : ((memb m (K ||| 2 ^ g)).map f).sum = ((memb m K).map f).sum + f g := by
  have key : ∀ (l : List Nat), l.Nodup → g ∈ l → ((l.filter fun x => (K ||| 2 ^ g).testBit x).map f).sum = ((l.filter fun x => K.testBit x).map f).sum + f g := by
    intro l
    induction l with
    | nil => intro _ h; cases h
    | cons x r ih =>
      intro nd h
      rw [List.nodup_cons] at nd
      rw [List.filter_cons, List.filter_cons]
      by_cases e : x = g
      · subst e
        rw [if_pos (by rw [testBit_or_pow]; simp), if_neg (by rw [hb]; simp)]
        have e2 : (r.filter fun y => (K ||| 2 ^ x).testBit y) = r.filter fun y => K.testBit y := by
          apply List.filter_congr
          intro y hy
          rw [testBit_or_pow]
          have : y ≠ x := fun q => nd.1 (q ▸ hy)
          simp [this]
        rw [e2, List.map_cons, List.sum_cons]; omega
      · have hm : g ∈ r := by
          rcases List.mem_cons.mp h with q | q
          · exact absurd q.symm e
          · exact q
        have ih' := ih nd.2 hm
        have e3 : (K ||| 2 ^ g).testBit x = K.testBit x := by rw [testBit_or_pow]; simp [e]
        rw [e3]
        split
        · rw [List.map_cons, List.sum_cons, List.map_cons, List.sum_cons, ih']; omega
        · exact ih'
  exact key _ List.nodup_range (List.mem_range.mpr hg)
theorem mn_insert (t : Tb) (q : Nat) {m K g : Nat} (hg : g < m) (hb : K.testBit g = false) : mn t q (memb m (K ||| 2 ^ g)) = if cf t q g = true then Nat.min (mn t q (memb m K)) (sz t g) else mn t q (memb m K) := by
  have key : ∀ (l : List Nat), l.Nodup → g ∈ l → mn t q (l.filter fun x => (K ||| 2 ^ g).testBit x) = if cf t q g = true then Nat.min (mn t q (l.filter fun x => K.testBit x)) (sz t g) else mn t q (l.filter fun x => K.testBit x) := by
    intro l
    induction l with
    | nil => intro _ h; cases h
    | cons x r ih =>
      intro nd h
      rw [List.nodup_cons] at nd
      rw [List.filter_cons, List.filter_cons]
      by_cases e : x = g
      · subst e
        have e2 : (r.filter fun y => (K ||| 2 ^ x).testBit y) = r.filter fun y => K.testBit y := by
          apply List.filter_congr
          intro y hy
          rw [testBit_or_pow]
          have : y ≠ x := fun q => nd.1 (q ▸ hy)
          simp [this]
        have e4 : (K ||| 2 ^ x).testBit x = true := by rw [testBit_or_pow]; simp
        rw [if_pos e4, hb, e2, mn_cons, if_neg Bool.false_ne_true]
        split
        · show min _ _ = min _ _; omega
        · rfl
      · have hm : g ∈ r := by
          rcases List.mem_cons.mp h with q | q
          · exact absurd q.symm e
          · exact q
        have ih' := ih nd.2 hm
        have e3 : (K ||| 2 ^ g).testBit x = K.testBit x := by rw [testBit_or_pow]; simp [e]
        rw [e3]
        split
        · rw [mn_cons, mn_cons, ih']
          split
          · split
            · exact (min_min _ _ _).symm
            · rfl
          · rfl
        · exact ih'
  exact key _ List.nodup_range (List.mem_range.mpr hg)
theorem cnt_eq_sum (t : Tb) (K : Nat) : cnt t K = ((memb (mm t) K).map fun _ => 1).sum := by
  unfold cnt
  generalize memb (mm t) K = l
  induction l with
  | nil => rfl
  | cons x r ih => rw [List.length_cons, List.map_cons, List.sum_cons, ih]; omega
theorem lines_insert {t : Tb} {K g : Nat} (hg : g < mm t) (hb : K.testBit g = false) : lines t (K ||| 2 ^ g) = lines t K + sz t g := sum_insert _ hg hb
theorem cnt_insert {t : Tb} {K g : Nat} (hg : g < mm t) (hb : K.testBit g = false) : cnt t (K ||| 2 ^ g) = cnt t K + 1 := by
  rw [cnt_eq_sum, cnt_eq_sum]; exact sum_insert _ hg hb
theorem zip_map {α β γ δ : Type} (f : α → β) (g : α → γ) (h : β × γ → δ) : ∀ l : List α, ((l.map f).zip (l.map g)).map h = l.map fun a => h (f a, g a)
  | [] => rfl
  | a :: l => by rw [List.map_cons, List.map_cons, List.zip_cons_cons, List.map_cons, zip_map f g h l, List.map_cons]
theorem zip_map_self {α β δ : Type} (f : α → β) (h : β × α → δ) : ∀ l : List α, ((l.map f).zip l).map h = l.map fun a => h (f a, a)
  | [] => rfl
  | a :: l => by rw [List.map_cons, List.zip_cons_cons, List.map_cons, zip_map_self f h l, List.map_cons]
theorem StOf.add {t : Tb} {K g : Nat} {s : State} (S : StOf t K s) (hg : g < mm t) (hb : K.testBit g = false) : StOf t (K ||| 2 ^ g) (Vamvsb.add s (item t g)) where
  lt := or_lt S.lt hg
  room := by
    show s.room + sz t g = _
    rw [S.room, lines_insert hg hb]
  reads := by
    show ((s.reads.zip (t.asks.map fun a => cf t a.g g)).map fun y => if y.2 = true then Nat.min y.1 (sz t g) else y.1) = _
    rw [S.reads, zip_map]
    apply List.map_congr_left
    intro a _
    rw [mn_insert t a.g hg hb]
  len := by
    show (s.kept ++ [g]).length = _
    rw [List.length_append, S.len, cnt_insert hg hb]; rfl
  mem := fun x hx => by
    show ((s.kept ++ [g]).contains x = true ↔ _)
    rw [testBit_or_pow, List.contains_iff_mem, List.mem_append, List.mem_singleton, Bool.or_eq_true, decide_eq_true_eq, ← S.mem x hx, List.contains_iff_mem]
theorem StOf.readCost {t : Tb} {K : Nat} {s : State} (S : StOf t K s) : Vamvsb.readCost t s = asked t K := by
  unfold Vamvsb.readCost asked
  rw [S.reads, zip_map_self]
/-- what a set costs with so many changes -/
def cost (t : Tb) (c K : Nat) : Nat := asked t K + 2 * c * cnt t K
theorem StOf.cost {t : Tb} {K : Nat} {s : State} (S : StOf t K s) (m : Terms) : Vamvsb.stateCost t m s = Bk.cost t m.changes K := by
  unfold Vamvsb.stateCost Vamvsb.upkeep Bk.cost
  rw [S.readCost, S.len]; rfl
end Bk
set_option linter.all false
namespace Bk
open Vamvsa (lexLess putGroup collect Group keyOf)
/-! ### how many groups: how many keys -/
theorem lex_irrefl : ∀ a : List Nat, lexLess a a = false
  | [] => rfl
  | a :: r => by
    unfold lexLess
    rw [lex_irrefl r]
    simp
theorem lex_trans : ∀ a b c : List Nat, lexLess a b = true → lexLess b c = true → lexLess a c = true
  | [], _, _, h, _ => by cases h
  | _ :: _, [], _, h, _ => by cases h
  | _ :: _, _ :: _, [], _, h => by cases h
  | a :: r, b :: s, c :: u, h1, h2 => by
    unfold lexLess at h1 h2 ⊢
    rw [Bool.or_eq_true, Bool.and_eq_true, decide_eq_true_eq, beq_iff_eq] at h1 h2 ⊢
    rcases h1 with h1 | ⟨h1, h3⟩
    · rcases h2 with h2 | ⟨h2, h4⟩
      · exact .inl (by omega)
      · exact .inl (by omega)
    · rcases h2 with h2 | ⟨h2, h4⟩
      · exact .inl (by omega)
      · exact .inr ⟨by omega, lex_trans r s u h3 h4⟩
theorem lex_total : ∀ a b : List Nat, a.length = b.length → a ≠ b → lexLess a b = false → lexLess b a = true
  | [], [], _, h, _ => absurd rfl h
  | [], _ :: _, h, _, _ => by cases h
  | _ :: _, [], h, _, _ => by cases h
  | a :: r, b :: s, hl, hn, h => by
    unfold lexLess at h ⊢
    rw [Bool.or_eq_false_iff, decide_eq_false_iff_not] at h
    obtain ⟨h1, h2⟩ := h
    rw [Bool.or_eq_true, Bool.and_eq_true, decide_eq_true_eq, beq_iff_eq]
    by_cases c : a = b
    · subst c
      rw [beq_self_eq_true, Bool.true_and] at h2
      refine .inr ⟨rfl, lex_total r s (by simpa using hl) (fun z => hn (by rw [z])) h2⟩
    · exact .inl (by omega)
def keys (l : List Group) : List (List Nat) := l.map fun x => x.key
theorem put_mem (x : Group) : ∀ (l : List Group) (k : List Nat), k ∈ keys (putGroup x l) ↔ k = x.key ∨ k ∈ keys l
  | [], k => by simp [keys, putGroup]
  | y :: r, k => by
    unfold putGroup
    split
    · rename_i h
      simp [keys, h]
    · split
      · simp [keys]
      · have := put_mem x r k
        unfold keys at this ⊢
        rw [List.map_cons, List.mem_cons, this, List.map_cons, List.mem_cons]
        constructor
        · rintro (h | h | h)
          · exact .inr (.inl h)
          · exact .inl h
          · exact .inr (.inr h)
        · rintro (h | h | h)
          · exact .inr (.inl h)
          · exact .inl h
          · exact .inr (.inr h)
theorem put_sorted (n : Nat) (x : Group) (hx : x.key.length = n) : ∀ l : List Group, (∀ k ∈ keys l, k.length = n) → (keys l).Pairwise (fun a b => lexLess a b = true) → (keys (putGroup x l)).Pairwise (fun a b => lexLess a b = true)
  | [], _, _ => by simp [keys, putGroup]
  | y :: r, hl, h => by
    have hy : y.key.length = n := hl _ (by simp [keys])
    have hr : ∀ k ∈ keys r, k.length = n := fun k hk => hl k (List.mem_cons_of_mem _ hk)
    have h' : (∀ k ∈ keys r, lexLess y.key k = true) ∧ (keys r).Pairwise (fun a b => lexLess a b = true) := List.pairwise_cons.mp h
    unfold putGroup
    split
    · exact h
    · rename_i hne
      split
      · rename_i hlt
        refine List.pairwise_cons.mpr ⟨fun k hk => ?_, h⟩
        have hk : k ∈ y.key :: keys r := hk
        rcases List.mem_cons.mp hk with q | q
        · rw [q]; exact hlt
        · exact lex_trans _ _ _ hlt (h'.1 k q)
      · rename_i hge
        refine List.pairwise_cons.mpr ⟨fun k hk => ?_, put_sorted n x hx r hr h'.2⟩
        rcases (put_mem x r k).mp hk with q | q
        · rw [q]
          exact lex_total _ _ (by rw [hx, hy]) hne (by simpa using hge)
        · exact h'.1 k q
theorem collect_keys (n : Nat) (l : List Group) (hl : ∀ x ∈ l, x.key.length = n) : (keys (collect l)).Pairwise (fun a b => lexLess a b = true) ∧ ∀ k, k ∈ keys (collect l) ↔ k ∈ keys l := by
  have key : ∀ (l acc : List Group), (∀ x ∈ l, x.key.length = n) → (∀ k ∈ keys acc, k.length = n) → (keys acc).Pairwise (fun a b => lexLess a b = true) →
      (keys (l.foldl (fun r x => putGroup x r) acc)).Pairwise (fun a b => lexLess a b = true) ∧ ∀ k, k ∈ keys (l.foldl (fun r x => putGroup x r) acc) ↔ k ∈ keys acc ∨ k ∈ keys l := by
    intro l
    induction l with
    | nil =>
      intro acc _ _ h
      exact ⟨h, fun k => by simp [keys]⟩
    | cons x r ih =>
      intro acc hl ha h
      have hx := hl x (by simp)
      obtain ⟨i1, i2⟩ := ih (putGroup x acc) (fun y hy => hl y (List.mem_cons_of_mem _ hy)) (fun k hk => by
        rcases (put_mem x acc k).mp hk with q | q
        · rw [q]; exact hx
        · exact ha k q) (put_sorted n x hx acc ha h)
      refine ⟨i1, fun k => ?_⟩
      rw [List.foldl_cons, i2 k, put_mem]
      show _ ↔ _ ∨ k ∈ x.key :: keys r
      rw [List.mem_cons]
      constructor
      · rintro ((q | q) | q)
        · exact .inr (.inl q)
        · exact .inl q
        · exact .inr (.inr q)
      · rintro (q | q | q)
        · exact .inl (.inr q)
        · exact .inl (.inl q)
        · exact .inr q
  obtain ⟨h1, h2⟩ := key l [] hl (by intro k hk; cases hk) .nil
  exact ⟨h1, fun k => by rw [show collect l = l.foldl (fun r x => putGroup x r) [] from rfl, h2 k]; simp [keys]⟩
theorem nodup_le {α : Type} [DecidableEq α] : ∀ (l m : List α), l.Nodup → (∀ x ∈ l, x ∈ m) → l.length ≤ m.length
  | [], _, _, _ => Nat.zero_le _
  | a :: r, m, h, hs => by
    obtain ⟨h1, h2⟩ := List.nodup_cons.mp h
    have hm := hs a (by simp)
    have := nodup_le r (m.erase a) h2 fun x hx => by
      have hne : x ≠ a := fun z => h1 (z ▸ hx)
      exact (List.mem_erase_of_ne hne).mpr (hs x (List.mem_cons_of_mem _ hx))
    rw [List.length_erase_of_mem hm] at this
    have hp : 0 < m.length := List.length_pos_of_mem hm
    rw [List.length_cons]
    omega
/-- a list of different keys, all of them: as many as the groups -/
theorem size_law {t : Tb} {g : Nat} {ks : List (List Nat)} (hks : ks = t.rows.map fun r => keyOf (Vamvsa.width t) g r.vs) {L : List (List Int)} (hn : L.Nodup)
    (h : ∀ x, x ∈ L ↔ x ∈ ks.map fun k => k.map fun (n : Nat) => (n : Int)) : L.length = sz t g := by
  have hlen : ∀ x ∈ t.rows.map (fun r => (⟨keyOf (Vamvsa.width t) g r.vs, r.m, 1⟩ : Group)), x.key.length = (Vamvsa.columnsOf (Vamvsa.width t) g).length := by
    intro x hx
    obtain ⟨r, _, rfl⟩ := List.mem_map.mp hx
    exact List.length_map _
  obtain ⟨h1, h2⟩ := collect_keys _ _ hlen
  have hnd : (keys (collect (t.rows.map fun r => (⟨keyOf (Vamvsa.width t) g r.vs, r.m, 1⟩ : Group)))).Nodup := by
    refine List.Pairwise.imp ?_ h1
    intro a b hab e
    rw [e, lex_irrefl] at hab
    cases hab
  have hkk : keys (t.rows.map fun r => (⟨keyOf (Vamvsa.width t) g r.vs, r.m, 1⟩ : Group)) = ks := by
    rw [hks]
    unfold keys
    rw [List.map_map]
    rfl
  rw [hkk] at h2
  have hs : sz t g = (keys (collect (t.rows.map fun r => (⟨keyOf (Vamvsa.width t) g r.vs, r.m, 1⟩ : Group)))).length := (List.length_map _).symm
  rw [hs]
  generalize keys (collect (t.rows.map fun r => (⟨keyOf (Vamvsa.width t) g r.vs, r.m, 1⟩ : Group))) = C at h2 hnd
  have inj : ∀ a b : List Nat, (a.map fun (n : Nat) => (n : Int)) = (b.map fun (n : Nat) => (n : Int)) → a = b := by
    intro a b e
    have e2 := congrArg (List.map Int.toNat) e
    have f : (Int.toNat ∘ fun (n : Nat) => (n : Int)) = id := funext fun n => rfl
    rw [List.map_map, List.map_map, f, List.map_id, List.map_id] at e2
    exact e2
  have hC : (C.map fun k => k.map fun (n : Nat) => (n : Int)).Nodup := by
    unfold List.Nodup
    rw [List.pairwise_map]
    exact List.Pairwise.imp (fun hab e => hab (inj _ _ e)) hnd
  have e1 := nodup_le L (C.map fun k => k.map fun (n : Nat) => (n : Int)) hn fun x hx => by
    obtain ⟨k, hk, rfl⟩ := List.mem_map.mp ((h x).mp hx)
    exact List.mem_map.mpr ⟨k, (h2 k).mpr hk, rfl⟩
  have e2 := nodup_le (C.map fun k => k.map fun (n : Nat) => (n : Int)) L hC fun x hx => by
    obtain ⟨k, hk, rfl⟩ := List.mem_map.mp hx
    exact (h _).mpr (List.mem_map.mpr ⟨k, (h2 k).mp hk, rfl⟩)
  rw [List.length_map] at e1 e2
  omega
end Bk
set_option linter.all false
namespace Bk
open Vamvsa (canFrom columnsOf)
/-! ### within: bits -/
theorem and_eq_self {a b : Nat} : a &&& b = a ↔ ∀ i, a.testBit i = true → b.testBit i = true := by
  constructor
  · intro h i hi
    have := congrArg (fun z => z.testBit i) h
    simp only [Nat.testBit_and] at this
    rw [hi] at this
    simpa using this
  · intro h
    apply Nat.eq_of_testBit_eq
    intro i
    rw [Nat.testBit_and]
    cases e : a.testBit i with
    | false => rfl
    | true => rw [h i e]; rfl
theorem mem_cols {n g i : Nat} : i ∈ columnsOf n g ↔ i < n ∧ g.testBit i = true := by
  unfold columnsOf
  rw [List.mem_filter, List.mem_range, Nat.testBit_eq_decide_div_mod_eq, decide_eq_true_eq, beq_iff_eq]
theorem canFrom_eq {n q g : Nat} (hq : q < 2 ^ n) : canFrom n g q = decide (q &&& g = q) := by
  rw [Bool.eq_iff_iff, decide_eq_true_eq, and_eq_self]
  unfold canFrom
  rw [List.all_eq_true]
  constructor
  · intro h i hi
    have hin : i < n := by
      have := Nat.ge_two_pow_of_testBit hi
      have h2 : 2 ^ i < 2 ^ n := by omega
      exact (Nat.pow_lt_pow_iff_right (by decide)).mp h2
    have := h i (mem_cols.mpr ⟨hin, hi⟩)
    rw [List.contains_iff_mem, mem_cols] at this
    exact this.2
  · intro h i hi
    obtain ⟨h1, h2⟩ := mem_cols.mp hi
    rw [List.contains_iff_mem, mem_cols]
    exact ⟨h1, h i h2⟩
theorem cf_eq {t : Tb} {q g : Nat} (hq : q < mm t) : cf t q g = decide (q &&& g = q) := canFrom_eq hq
/-! ### by the least bit -/
def rd (t : Tb) (q K : Nat) : Bool := (memb (mm t) K).any (cf t q)
theorem mn_none (t : Tb) (q : Nat) : ∀ l : List Nat, l.any (cf t q) = false → mn t q l = t.rows.length
  | [], _ => rfl
  | v :: l, h => by
    rw [List.any_cons, Bool.or_eq_false_iff] at h
    rw [mn_cons, if_neg (by rw [h.1]; simp)]
    exact mn_none t q l h.2
theorem mn_step {t : Tb} {q K : Nat} (h0 : 0 < K) (hK : K < 2 ^ mm t) :
    mn t q (memb (mm t) K) = if cf t q (lb K) = true ∧ (rd t q (K - 2 ^ lb K) = false ∨ sz t (lb K) < mn t q (memb (mm t) (K - 2 ^ lb K))) then sz t (lb K) else mn t q (memb (mm t) (K - 2 ^ lb K)) := by
  rw [memb_cons h0 hK, mn_cons]
  by_cases c : cf t q (lb K) = true
  · rw [if_pos c]
    by_cases r : rd t q (K - 2 ^ lb K) = false
    · rw [if_pos ⟨c, .inl r⟩, mn_none _ _ _ r]
      have := sz_le t (lb K)
      show min _ _ = _
      omega
    · by_cases s : sz t (lb K) < mn t q (memb (mm t) (K - 2 ^ lb K))
      · rw [if_pos ⟨c, .inr s⟩]
        show min _ _ = _
        omega
      · rw [if_neg (by rintro ⟨_, q | q⟩; exact r q; exact s q)]
        show min _ _ = _
        omega
  · rw [if_neg c, if_neg (fun z => c z.1)]
theorem rd_step {t : Tb} {q K : Nat} (h0 : 0 < K) (hK : K < 2 ^ mm t) : rd t q K = (rd t q (K - 2 ^ lb K) || cf t q (lb K)) := by
  unfold rd
  rw [memb_cons h0 hK, List.any_cons, Bool.or_comm]
/-- a sum over a set -/
def sm (f : Nat → Nat) (m K : Nat) : Nat := ((memb m K).map f).sum
theorem sm_step {f : Nat → Nat} {m K : Nat} (h0 : 0 < K) (hK : K < 2 ^ m) : sm f m K = sm f m (K - 2 ^ lb K) + f (lb K) := by
  unfold sm
  rw [memb_cons h0 hK, List.map_cons, List.sum_cons]
  omega
theorem sm_zero (f : Nat → Nat) (m : Nat) : sm f m 0 = 0 := by unfold sm; rw [memb_zero]; rfl
theorem cnt_sm (t : Tb) (K : Nat) : cnt t K = sm (fun _ => 1) (mm t) K := cnt_eq_sum t K
theorem lines_sm (t : Tb) (K : Nat) : lines t K = sm (sz t) (mm t) K := rfl
/-! ### all questions' costs, grouping by grouping -/
def timesOf (t : Tb) (g : Nat) : Nat := ((t.asks.filter fun a => a.g == g).map fun a => a.k).sum
def part (t : Tb) (i K : Nat) : Nat := ((t.asks.filter fun a => decide (a.g < i)).map fun a => a.k * mn t a.g (memb (mm t) K)).sum
theorem part_zero (t : Tb) (K : Nat) : part t 0 K = 0 := by
  unfold part
  have : (t.asks.filter fun a => decide (a.g < 0)) = [] := by
    rw [List.filter_eq_nil_iff]
    intro a _
    simp
  rw [this]
  rfl
theorem part_succ (t : Tb) (i K : Nat) : part t (i + 1) K = part t i K + timesOf t i * mn t i (memb (mm t) K) := by
  unfold part timesOf
  induction t.asks with
  | nil => simp
  | cons a r ih =>
    rw [List.filter_cons, List.filter_cons, List.filter_cons]
    by_cases c1 : @LT.lt Nat _ a.g i
    · rw [if_pos (decide_eq_true (by show @LT.lt Nat _ a.g (i + 1); omega)), if_pos (decide_eq_true c1), if_neg (by rw [beq_iff_eq]; intro z; have z : @Eq Nat a.g i := z; omega)]
      rw [List.map_cons, List.sum_cons, List.map_cons, List.sum_cons, ih]
      omega
    · by_cases c2 : @Eq Nat a.g i
      · rw [if_pos (decide_eq_true (by show @LT.lt Nat _ a.g (i + 1); omega)), if_neg (by rw [decide_eq_true_eq]; exact c1), if_pos (by rw [beq_iff_eq]; exact c2)]
        rw [List.map_cons, List.sum_cons, List.map_cons, List.sum_cons, ih, Nat.add_mul]
        have c2' : a.g = i := c2
        rw [c2']
        omega
      · rw [if_neg (by rw [decide_eq_true_eq]; show ¬ @LT.lt Nat _ a.g (i + 1); omega), if_neg (by rw [decide_eq_true_eq]; exact c1), if_neg (by rw [beq_iff_eq]; exact c2)]
        exact ih
theorem part_all {t : Tb} (h : ∀ a ∈ t.asks, @LT.lt Nat _ a.g (mm t)) (K : Nat) : part t (mm t) K = asked t K := by
  unfold part asked
  rw [List.filter_eq_self.mpr fun a ha => decide_eq_true (h a ha)]
end Bk
set_option linter.all false
namespace Bk
open Vamvsb (State Item Terms Price)
/-! ### what the program finds, by numbers -/
/-- better: less, or alike with fewer lines -/
def lt2 (t : Tb) (c a b : Nat) : Prop := cost t c a < cost t c b ∨ (cost t c a = cost t c b ∧ lines t a < lines t b)
instance (t : Tb) (c a b : Nat) : Decidable (lt2 t c a b) := by unfold lt2; exact inferInstance
/-- the best set among the numbers below n + 1 -/
def bo (t : Tb) (c r m : Nat) : Nat → Nat
  | 0 => 0
  | n + 1 => if (lines t (n + 1) ≤ r ∧ cnt t (n + 1) ≤ m) ∧ lt2 t c (n + 1) (bo t c r m n) then n + 1 else bo t c r m n
/-- the cost so far -/
def nsL (t : Tb) (c K : Nat) : Option Nat → Nat
  | none => cost t c K
  | some x => cost t c (K ||| 2 ^ x)
/-- the next grouping, among those below n -/
def nsF (t : Tb) (c r K : Nat) : Nat → Option Nat
  | 0 => none
  | g + 1 => if (K.testBit g = false ∧ lines t (K ||| 2 ^ g) ≤ r) ∧ cost t c (K ||| 2 ^ g) < nsL t c K (nsF t c r K g) then some g else nsF t c r K g
def nxt (t : Tb) (c r K : Nat) : Option Nat := nsF t c r K (mm t)
def sbs (t : Tb) (c r : Nat) : Nat → Nat → List Nat
  | 0, _ => []
  | n + 1, K => match nxt t c r K with
    | none => []
    | some g => g :: sbs t c r n (K ||| 2 ^ g)
def setOf (l : List Nat) : Nat := l.foldl (fun k g => k ||| 2 ^ g) 0
theorem bo_lt {t : Tb} {c r m : Nat} : ∀ n, bo t c r m n ≤ n
  | 0 => Nat.le_refl _
  | n + 1 => by
    have := bo_lt (t := t) (c := c) (r := r) (m := m) n
    unfold bo
    split
    · exact Nat.le_refl _
    · omega
theorem nsF_some {t : Tb} {c r K : Nat} : ∀ n g, nsF t c r K n = some g → g < n ∧ K.testBit g = false ∧ lines t (K ||| 2 ^ g) ≤ r ∧ cost t c (K ||| 2 ^ g) < cost t c K
  | 0, g, h => by cases h
  | n + 1, g, h => by
    unfold nsF at h
    split at h
    · rename_i c0
      injection h with h
      subst h
      obtain ⟨⟨h1, h2⟩, h3⟩ := c0
      refine ⟨by omega, h1, h2, ?_⟩
      cases e : nsF t c r K n with
      | none => rw [e] at h3; exact h3
      | some x =>
        rw [e] at h3
        have := (nsF_some n x e).2.2.2
        exact Nat.lt_trans h3 this
    · obtain ⟨h1, h2⟩ := nsF_some n g h
      exact ⟨by omega, h2⟩
theorem nsF_room {t : Tb} {c r r' K : Nat} (h : ∀ J, lines t J ≤ r ∧ lines t J ≤ r') : ∀ n, nsF t c r K n = nsF t c r' K n
  | 0 => rfl
  | n + 1 => by
    unfold nsF
    rw [nsF_room h n]
    have h1 := h (K ||| 2 ^ n)
    by_cases c0 : (K.testBit n = false ∧ lines t (K ||| 2 ^ n) ≤ r) ∧ cost t c (K ||| 2 ^ n) < nsL t c K (nsF t c r' K n)
    · rw [if_pos c0, if_pos ⟨⟨c0.1.1, h1.2⟩, c0.2⟩]
    · rw [if_neg c0, if_neg fun z => c0 ⟨⟨z.1.1, h1.1⟩, z.2⟩]
theorem sbs_room {t : Tb} {c r r' : Nat} (h : ∀ J, lines t J ≤ r ∧ lines t J ≤ r') : ∀ n K, sbs t c r n K = sbs t c r' n K
  | 0, _ => rfl
  | n + 1, K => by
    unfold sbs nxt
    rw [nsF_room h]
    cases nsF t c r' K (mm t) with
    | none => rfl
    | some g => show g :: _ = g :: _; rw [sbs_room h n]
theorem sbs_len {t : Tb} {c r : Nat} : ∀ n K, (sbs t c r n K).length ≤ n
  | 0, _ => Nat.zero_le _
  | n + 1, K => by
    unfold sbs
    cases nxt t c r K with
    | none => exact Nat.zero_le _
    | some g => have := sbs_len (t := t) (c := c) (r := r) n (K ||| 2 ^ g); show (_ :: _).length ≤ _; rw [List.length_cons]; omega
theorem sbs_mem {t : Tb} {c r : Nat} : ∀ n K, ∀ g ∈ sbs t c r n K, g < mm t
  | 0, _, g, h => by cases h
  | n + 1, K, g, h => by
    unfold sbs at h
    cases e : nxt t c r K with
    | none => rw [e] at h; cases h
    | some x =>
      rw [e] at h
      rcases List.mem_cons.mp h with rfl | h
      · exact (nsF_some _ _ e).1
      · exact sbs_mem n _ g h
theorem foldl_or_lt {m : Nat} : ∀ (l : List Nat) (K : Nat), K < 2 ^ m → (∀ g ∈ l, g < m) → l.foldl (fun k g => k ||| 2 ^ g) K < 2 ^ m
  | [], K, h, _ => h
  | g :: r, K, h, hl => by
    rw [List.foldl_cons]
    exact foldl_or_lt r _ (or_lt h (hl g (by simp))) fun x hx => hl x (List.mem_cons_of_mem _ hx)
theorem setOf_lt {m : Nat} {l : List Nat} (h : ∀ g ∈ l, g < m) : setOf l < 2 ^ m := foldl_or_lt l 0 (Nat.two_pow_pos m) h
theorem foldl_or_bit : ∀ (l : List Nat) (K i : Nat), (l.foldl (fun k g => k ||| 2 ^ g) K).testBit i = (K.testBit i || l.contains i)
  | [], K, i => by simp
  | g :: r, K, i => by
    rw [List.foldl_cons, foldl_or_bit r, testBit_or_pow, List.contains_cons, Bool.or_assoc]
    congr 2
theorem setOf_bit (l : List Nat) (i : Nat) : (setOf l).testBit i = l.contains i := by
  unfold setOf
  rw [foldl_or_bit]
  simp
theorem cnt_le (t : Tb) (K : Nat) : cnt t K ≤ mm t := by
  unfold cnt memb
  have := List.length_filter_le (fun g => K.testBit g) (List.range (mm t))
  rw [List.length_range] at this
  exact this
theorem sum_filter_le (f : Nat → Nat) (p : Nat → Bool) : ∀ l : List Nat, ((l.filter p).map f).sum ≤ (l.map f).sum
  | [] => Nat.le_refl _
  | x :: r => by
    have := sum_filter_le f p r
    rw [List.filter_cons]
    split
    · rw [List.map_cons, List.sum_cons, List.map_cons, List.sum_cons]; omega
    · rw [List.map_cons, List.sum_cons]; omega
theorem lines_le_all (t : Tb) (K : Nat) : lines t K ≤ lines t (2 ^ mm t - 1) := by
  have e : memb (mm t) (2 ^ mm t - 1) = List.range (mm t) := by
    unfold memb
    rw [List.filter_eq_self]
    intro g hg
    rw [Nat.testBit_two_pow_sub_one]
    exact decide_eq_true (List.mem_range.mp hg)
  unfold lines
  rw [e]
  exact sum_filter_le _ _ _
theorem sum_le_const (f : Nat → Nat) (b : Nat) (h : ∀ x, f x ≤ b) : ∀ l : List Nat, (l.map f).sum ≤ l.length * b
  | [] => Nat.zero_le _
  | x :: r => by
    have := sum_le_const f b h r
    have := h x
    rw [List.map_cons, List.sum_cons, List.length_cons, Nat.add_mul, Nat.one_mul]
    omega
theorem lines_small {t : Tb} (hm : mm t ≤ 16) (hr : t.rows.length ≤ 16) (K : Nat) : lines t K ≤ 256 := by
  have h1 := sum_le_const (sz t) 16 (fun g => Nat.le_trans (sz_le t g) hr) (memb (mm t) K)
  have h2 := cnt_le t K
  have h3 : (memb (mm t) K).length * 16 ≤ 16 * 16 := Nat.mul_le_mul_right _ (by show cnt t K ≤ 16; omega)
  show ((memb (mm t) K).map (sz t)).sum ≤ 256
  omega
end Bk
set_option linter.all false
namespace Bk
open Vamvsb (State Item Terms Price)
/-! ### all sets gone through -/
def flat : List Item → State → List State
  | [], s => [s]
  | x :: r, s => flat r s ++ flat r (Vamvsb.add s x)
theorem walk_flat {A : Type} (f : A → State → A) : ∀ (l : List Item) (s : State) (a : A), Vamvsb.walk f l s a = (flat l s).foldl f a
  | [], _, _ => rfl
  | x :: r, s, a => by
    show Vamvsb.walk f r (Vamvsb.add s x) (Vamvsb.walk f r s a) = _
    rw [walk_flat f r, walk_flat f r, flat, List.foldl_append]
/-- the state of the set K -/
def stK (t : Tb) (K : Nat) : State := ⟨memb (mm t) K, K, lines t K, t.asks.map fun a => mn t a.g (memb (mm t) K)⟩
theorem stK_of (t : Tb) {K : Nat} (h : K < 2 ^ mm t) : StOf t K (stK t K) := ⟨h, rfl, rfl, rfl, fun g hg => contains_memb hg⟩
theorem first_stK (t : Tb) : Vamvsb.firstState t = stK t 0 := by
  unfold Vamvsb.firstState stK lines
  rw [memb_zero]
  rfl
theorem memb_low {m g K : Nat} (hg : g ≤ m) (hK : K < 2 ^ g) : memb m K = memb g K := by
  obtain ⟨d, rfl⟩ : ∃ d, m = g + d := ⟨m - g, by omega⟩
  unfold memb
  rw [List.range_add, List.filter_append]
  have : ((List.range d).map (g + ·)).filter (fun x => K.testBit x) = [] := by
    rw [List.filter_eq_nil_iff]
    intro x hx
    obtain ⟨y, _, rfl⟩ := List.mem_map.mp hx
    rw [Nat.testBit_lt_two_pow (Nat.lt_of_lt_of_le hK (Nat.pow_le_pow_right (by omega) (by omega)))]
    simp
  rw [this, List.append_nil]
theorem memb_snoc {m g K : Nat} (hg : g < m) (hK : K < 2 ^ g) : memb m (K ||| 2 ^ g) = memb m K ++ [g] := by
  have h1 : K ||| 2 ^ g < 2 ^ (g + 1) := or_lt (Nat.lt_of_lt_of_le hK (Nat.pow_le_pow_right (by omega) (by omega))) (by omega)
  rw [memb_low (by omega) h1, memb_low (by omega) hK]
  unfold memb
  rw [List.range_succ, List.filter_append]
  congr 1
  · apply List.filter_congr
    intro x hx
    rw [testBit_or_pow]
    have := List.mem_range.mp hx
    have : ¬ x = g := by omega
    simp [this]
  · rw [List.filter_cons_of_pos (by rw [testBit_or_pow]; simp)]
    rfl
theorem add_stK {t : Tb} {K g : Nat} (hg : g < mm t) (hK : K < 2 ^ g) : Vamvsb.add (stK t K) (item t g) = stK t (K ||| 2 ^ g) := by
  have hb : K.testBit g = false := Nat.testBit_lt_two_pow hK
  have S := (stK_of t (Nat.lt_of_lt_of_le hK (Nat.pow_le_pow_right (by omega) (by omega)))).add hg hb
  have e : Vamvsb.add (stK t K) (item t g) = ⟨memb (mm t) K ++ [g], K + 2 ^ g, (Vamvsb.add (stK t K) (item t g)).room, (Vamvsb.add (stK t K) (item t g)).reads⟩ := rfl
  rw [e, S.room, S.reads, ← memb_snoc hg hK, add_or g K hb]
  rfl
def setsFrom : List Nat → Nat → List Nat
  | [], K => [K]
  | g :: r, K => setsFrom r K ++ setsFrom r (K ||| 2 ^ g)
theorem flat_sets (t : Tb) : ∀ (l : List Nat) (K lo : Nat), (∀ g ∈ l, lo ≤ g ∧ g < mm t) → l.Pairwise (· < ·) → K < 2 ^ lo → flat (l.map (item t)) (stK t K) = (setsFrom l K).map (stK t)
  | [], K, lo, _, _, _ => rfl
  | g :: r, K, lo, h, hp, hK => by
    obtain ⟨h1, h2⟩ := h g (by simp)
    obtain ⟨p1, p2⟩ := List.pairwise_cons.mp hp
    have hKg : K < 2 ^ g := Nat.lt_of_lt_of_le hK (Nat.pow_le_pow_right (by omega) h1)
    have hKg1 : K < 2 ^ (g + 1) := Nat.lt_of_lt_of_le hKg (Nat.pow_le_pow_right (by omega) (by omega))
    have hr : ∀ x ∈ r, g + 1 ≤ x ∧ x < mm t := fun x hx => ⟨p1 x hx, (h x (List.mem_cons_of_mem _ hx)).2⟩
    show flat (r.map (item t)) (stK t K) ++ flat (r.map (item t)) (Vamvsb.add (stK t K) (item t g)) = (setsFrom r K ++ setsFrom r (K ||| 2 ^ g)).map (stK t)
    rw [add_stK h2 hKg, List.map_append, flat_sets t r K (g + 1) hr p2 hKg1, flat_sets t r (K ||| 2 ^ g) (g + 1) hr p2 (or_lt hKg1 (by omega))]
theorem mem_setsFrom : ∀ (l : List Nat) (K J : Nat), J ∈ setsFrom l K ↔ (∀ i, i ∉ l → J.testBit i = K.testBit i) ∧ (∀ i, K.testBit i = true → J.testBit i = true)
  | [], K, J => by
    show J ∈ [K] ↔ _
    rw [List.mem_singleton]
    constructor
    · rintro rfl
      exact ⟨fun _ _ => rfl, fun _ h => h⟩
    · rintro ⟨h, _⟩
      exact Nat.eq_of_testBit_eq fun i => h i (by simp)
  | g :: r, K, J => by
    show J ∈ setsFrom r K ++ setsFrom r (K ||| 2 ^ g) ↔ _
    rw [List.mem_append, mem_setsFrom r K J, mem_setsFrom r (K ||| 2 ^ g) J]
    constructor
    · rintro (⟨h1, h2⟩ | ⟨h1, h2⟩)
      · exact ⟨fun i hi => h1 i (fun z => hi (List.mem_cons_of_mem _ z)), h2⟩
      · refine ⟨fun i hi => ?_, fun i hi => h2 i (by rw [testBit_or_pow, hi]; rfl)⟩
        rw [h1 i (fun z => hi (List.mem_cons_of_mem _ z)), testBit_or_pow]
        have : ¬ i = g := fun z => hi (by rw [z]; simp)
        simp [this]
    · rintro ⟨h1, h2⟩
      cases c : J.testBit g with
      | true =>
        refine .inr ⟨fun i hi => ?_, fun i hi => ?_⟩
        · rw [testBit_or_pow]
          by_cases e : i = g
          · subst e; simp [c]
          · rw [h1 i (by simp [e, hi])]; simp [e]
        · rw [testBit_or_pow] at hi
          by_cases e : i = g
          · rw [e]; exact c
          · exact h2 i (by simpa [e] using hi)
      | false =>
        refine .inl ⟨fun i hi => ?_, h2⟩
        by_cases e : i = g
        · subst e
          cases q : K.testBit i with
          | false => exact c
          | true => rw [h2 i q] at c; cases c
        · exact h1 i (by simp [e, hi])
/-- the numbers of all sets, as the walk goes -/
def KL (t : Tb) : List Nat := setsFrom (List.range (mm t)) 0
theorem mem_KL {t : Tb} {J : Nat} : J ∈ KL t ↔ J < 2 ^ mm t := by
  unfold KL
  rw [mem_setsFrom]
  constructor
  · rintro ⟨h, _⟩
    refine Nat.lt_pow_two_of_testBit J fun i hi => ?_
    rw [h i (by rw [List.mem_range]; omega)]
    simp
  · intro h
    refine ⟨fun i hi => ?_, fun i hi => by simp at hi⟩
    rw [List.mem_range] at hi
    rw [Nat.testBit_lt_two_pow (Nat.lt_of_lt_of_le h (Nat.pow_le_pow_right (by omega) (by omega)))]
    simp
theorem flat_all (t : Tb) : flat (Vamvsb.items t) (Vamvsb.firstState t) = (KL t).map (stK t) := by
  rw [items_eq, first_stK]
  exact flat_sets t _ 0 0 (fun g hg => ⟨Nat.zero_le _, List.mem_range.mp hg⟩) List.pairwise_lt_range (by decide)
/-! ### the best -/
def prK (t : Tb) (c K : Nat) : Price := ⟨cost t c K, lines t K, K, memb (mm t) K⟩
theorem priceOf_stK {t : Tb} {m : Terms} {K : Nat} (h : K < 2 ^ mm t) : Vamvsb.priceOf t m (stK t K) = prK t m.changes K := by
  unfold Vamvsb.priceOf prK
  rw [(stK_of t h).cost m]
  rfl
def lt3 (t : Tb) (c a b : Nat) : Prop := cost t c a < cost t c b ∨ (cost t c a = cost t c b ∧ (lines t a < lines t b ∨ (lines t a = lines t b ∧ a < b)))
instance (t : Tb) (c a b : Nat) : Decidable (lt3 t c a b) := by unfold lt3; exact inferInstance
theorem lt3_less {t : Tb} {c a b : Nat} : Vamvsb.priceLess (prK t c a) (prK t c b) = true ↔ lt3 t c a b := by
  unfold Vamvsb.priceLess prK lt3
  simp only [Bool.or_eq_true, Bool.and_eq_true, decide_eq_true_eq, beq_iff_eq]
theorem lt3_trans {t : Tb} {c x y z : Nat} (h1 : lt3 t c x y) (h2 : lt3 t c y z) : lt3 t c x z := by unfold lt3 at *; omega
theorem lt3_total {t : Tb} {c x y : Nat} (h1 : ¬ lt3 t c x y) (h2 : ¬ lt3 t c y x) : x = y := by unfold lt3 at *; omega
theorem lt3_irr {t : Tb} {c x : Nat} : ¬ lt3 t c x x := by unfold lt3; omega
def gB (t : Tb) (c : Nat) (ok : Nat → Bool) (b J : Nat) : Nat := if ok J = true ∧ lt3 t c J b then J else b
theorem gB_min {t : Tb} {c : Nat} {ok : Nat → Bool} : ∀ (L : List Nat) (b : Nat), (L.foldl (gB t c ok) b = b ∨ (L.foldl (gB t c ok) b ∈ L ∧ ok (L.foldl (gB t c ok) b) = true)) ∧ ¬ lt3 t c b (L.foldl (gB t c ok) b) ∧ ∀ J ∈ L, ok J = true → ¬ lt3 t c J (L.foldl (gB t c ok) b)
  | [], b => ⟨.inl rfl, lt3_irr, fun J h => by cases h⟩
  | J :: r, b => by
    rw [List.foldl_cons]
    obtain ⟨i1, i2, i3⟩ := gB_min (t := t) (c := c) (ok := ok) r (gB t c ok b J)
    generalize r.foldl (gB t c ok) (gB t c ok b J) = x at i1 i2 i3
    unfold gB at i1 i2
    by_cases h : ok J = true ∧ lt3 t c J b
    · rw [if_pos h] at i1 i2
      refine ⟨?_, fun z => i2 (lt3_trans h.2 z), fun M hM hok => ?_⟩
      · rcases i1 with rfl | ⟨q1, q2⟩
        · exact .inr ⟨by simp, h.1⟩
        · exact .inr ⟨List.mem_cons_of_mem _ q1, q2⟩
      · rcases List.mem_cons.mp hM with rfl | hM
        · exact i2
        · exact i3 M hM hok
    · rw [if_neg h] at i1 i2
      refine ⟨?_, i2, fun M hM hok => ?_⟩
      · rcases i1 with rfl | ⟨q1, q2⟩
        · exact .inl rfl
        · exact .inr ⟨List.mem_cons_of_mem _ q1, q2⟩
      · rcases List.mem_cons.mp hM with rfl | hM
        · intro z
          have h2 : ¬ lt3 t c M b := fun y => h ⟨hok, y⟩
          by_cases h3 : lt3 t c b M
          · exact i2 (lt3_trans h3 z)
          · rw [lt3_total h2 h3] at z
            exact i2 z
        · exact i3 M hM hok
theorem bo_min {t : Tb} {c r m : Nat} : ∀ n, (bo t c r m n = 0 ∨ (bo t c r m n ≤ n ∧ lines t (bo t c r m n) ≤ r ∧ cnt t (bo t c r m n) ≤ m)) ∧ ∀ J, J ≤ n → J = 0 ∨ (lines t J ≤ r ∧ cnt t J ≤ m) → ¬ lt3 t c J (bo t c r m n)
  | 0 => ⟨.inl rfl, fun J hJ _ => by rw [show J = 0 by omega]; exact lt3_irr⟩
  | n + 1 => by
    obtain ⟨i1, i2⟩ := bo_min (t := t) (c := c) (r := r) (m := m) n
    have hb := bo_lt (t := t) (c := c) (r := r) (m := m) n
    rw [bo]
    generalize bo t c r m n = b at i1 i2 hb
    by_cases h : (lines t (n + 1) ≤ r ∧ cnt t (n + 1) ≤ m) ∧ lt2 t c (n + 1) b
    · rw [if_pos h]
      have h3 : lt3 t c (n + 1) b := by
        have := h.2
        unfold lt2 at this
        unfold lt3
        omega
      refine ⟨.inr ⟨Nat.le_refl _, h.1⟩, fun J hJ hok => ?_⟩
      by_cases e : J = n + 1
      · rw [e]; exact lt3_irr
      · exact fun z => i2 J (by omega) hok (lt3_trans z h3)
    · rw [if_neg h]
      refine ⟨?_, fun J hJ hok => ?_⟩
      · rcases i1 with q | q
        · exact .inl q
        · exact .inr ⟨by omega, q.2⟩
      · by_cases e : J = n + 1
        · subst e
          intro z
          rcases hok with q | q
          · omega
          · refine h ⟨q, ?_⟩
            unfold lt3 at z
            unfold lt2
            omega
        · exact i2 J (by omega) hok
theorem best_law {t : Tb} {c r k : Nat} {ok : Nat → Bool} (hok : ∀ J, ok J = true ↔ lines t J ≤ r ∧ cnt t J ≤ k) : (KL t).foldl (gB t c ok) 0 = bo t c r k (2 ^ mm t - 1) := by
  obtain ⟨a1, a2, a3⟩ := gB_min (t := t) (c := c) (ok := ok) (KL t) 0
  obtain ⟨b1, b2⟩ := bo_min (t := t) (c := c) (r := r) (m := k) (2 ^ mm t - 1)
  have hp := Nat.two_pow_pos (mm t)
  generalize (KL t).foldl (gB t c ok) 0 = x at a1 a2 a3
  generalize bo t c r k (2 ^ mm t - 1) = y at b1 b2
  refine lt3_total (t := t) (c := c) ?_ ?_
  · rcases a1 with rfl | ⟨q1, q2⟩
    · exact b2 0 (Nat.zero_le _) (.inl rfl)
    · exact b2 x (by have := mem_KL.mp q1; omega) (.inr ((hok x).mp q2))
  · rcases b1 with rfl | ⟨q1, q2⟩
    · exact a2
    · exact a3 y (mem_KL.mpr (by omega)) ((hok y).mpr q2)
theorem fold_prK {t : Tb} {m : Terms} {ok : Nat → Bool} {f : Price → State → Price} (hf : ∀ b J, J < 2 ^ mm t → f (prK t m.changes b) (stK t J) = if ok J = true then Vamvsb.lesser (prK t m.changes b) (Vamvsb.priceOf t m (stK t J)) else prK t m.changes b) :
    ∀ (L : List Nat) (b : Nat), (∀ J ∈ L, J < 2 ^ mm t) → (L.map (stK t)).foldl f (prK t m.changes b) = prK t m.changes (L.foldl (gB t m.changes ok) b)
  | [], _, _ => rfl
  | J :: r, b, h => by
    have hJ := h J (by simp)
    rw [List.map_cons, List.foldl_cons, List.foldl_cons, hf b J hJ]
    have e : (if ok J = true then Vamvsb.lesser (prK t m.changes b) (Vamvsb.priceOf t m (stK t J)) else prK t m.changes b) = prK t m.changes (gB t m.changes ok b J) := by
      rw [priceOf_stK hJ]
      unfold gB Vamvsb.lesser
      by_cases h1 : ok J = true
      · rw [if_pos h1]
        by_cases h2 : lt3 t m.changes J b
        · rw [if_pos (lt3_less.mpr h2), if_pos ⟨h1, h2⟩]
        · rw [if_neg (fun z => h2 (lt3_less.mp z)), if_neg fun z => h2 z.2]
      · rw [if_neg h1, if_neg fun z => h1 z.1]
    rw [e]
    exact fold_prK hf r _ fun x hx => h x (List.mem_cons_of_mem _ hx)
theorem bestSet_eq (t : Tb) (m : Terms) : Vamvsb.bestSet t m = prK t m.changes (bo t m.changes m.room (mm t) (2 ^ mm t - 1)) := by
  have e : Vamvsb.bestSet t m = Vamvsb.walk (fun b s => if m.room < s.room then b else Vamvsb.lesser b (Vamvsb.priceOf t m s)) (Vamvsb.items t) (Vamvsb.firstState t) (Vamvsb.priceOf t m (Vamvsb.firstState t)) := rfl
  rw [e, walk_flat, flat_all, first_stK, priceOf_stK (Nat.two_pow_pos _), fold_prK (ok := fun J => decide (lines t J ≤ m.room)) ?_ _ _ fun J hJ => mem_KL.mp hJ, best_law (r := m.room) (k := mm t)]
  · intro J
    have := cnt_le t J
    simp only [decide_eq_true_eq]
    exact ⟨fun h => ⟨h, this⟩, fun h => h.1⟩
  · intro b J _
    show (if m.room < lines t J then _ else _) = _
    by_cases c : m.room < lines t J
    · rw [if_pos c, if_neg (by simp; omega)]
    · rw [if_neg c, if_pos (by simp; omega)]
theorem bestFew_eq (t : Tb) (n : Nat) : Vamvsb.bestFew t n = prK t 0 (bo t 0 (lines t (2 ^ mm t - 1)) n (2 ^ mm t - 1)) := by
  have e : Vamvsb.bestFew t n = Vamvsb.walk (fun b s => if n < s.kept.length then b else Vamvsb.lesser b (Vamvsb.priceOf t Vamvsb.free s)) (Vamvsb.items t) (Vamvsb.firstState t) (Vamvsb.priceOf t Vamvsb.free (Vamvsb.firstState t)) := rfl
  rw [e, walk_flat, flat_all, first_stK, priceOf_stK (Nat.two_pow_pos _), fold_prK (ok := fun J => decide (cnt t J ≤ n)) ?_ _ _ fun J hJ => mem_KL.mp hJ]
  · rw [best_law (r := lines t (2 ^ mm t - 1)) (k := n)]
    · rfl
    intro J
    have := lines_le_all t J
    simp only [decide_eq_true_eq]
    exact ⟨fun h => ⟨this, h⟩, fun h => h.2⟩
  · intro b J _
    show (if n < cnt t J then _ else _) = _
    by_cases c : n < cnt t J
    · rw [if_pos c, if_neg (by simp; omega)]
    · rw [if_neg c, if_pos (by simp; omega)]
/-! ### step by step -/
theorem nextBy_eq {t : Tb} {m : Terms} {K : Nat} {s : State} (S : StOf t K s) : Vamvsb.nextBy t m (Vamvsb.items t) s = (nxt t m.changes m.room K).map (item t) := by
  have key : ∀ n, n ≤ mm t → ((List.range n).map (item t)).foldl (fun (b : Option (Item × Nat)) x =>
      if s.kept.contains x.g = true ∨ m.room < s.room + x.size then b else
        let c := Vamvsb.stateCost t m (Vamvsb.add s x)
        if Vamvsb.stateCost t m s ≤ c then b else match b with
          | none => some (x, c)
          | some y => if c < y.2 then some (x, c) else some y) none = (nsF t m.changes m.room K n).map fun x => (item t x, cost t m.changes (K ||| 2 ^ x)) := by
    intro n
    induction n with
    | zero => intro _; rfl
    | succ n ih =>
      intro hn
      rw [List.range_succ, List.map_append, List.foldl_append, ih (by omega)]
      have hs := nsF_some (t := t) (c := m.changes) (r := m.room) (K := K) n
      rw [nsF]
      generalize nsF t m.changes m.room K n = b at hs
      show (if s.kept.contains n = true ∨ m.room < s.room + sz t n then _ else _) = _
      have hc := S.mem n (by omega)
      cases hb : K.testBit n with
      | true =>
        rw [hb] at hc
        rw [if_pos (.inl (hc.mpr rfl)), if_neg (fun z => by cases z.1.1)]
      | false =>
        have S2 := S.add (show n < mm t by omega) hb
        have hl : s.room + sz t n = lines t (K ||| 2 ^ n) := S2.room
        have hcn : ¬ s.kept.contains n = true := fun z => by rw [hc.mp z] at hb; cases hb
        rw [hl]
        by_cases h2 : m.room < lines t (K ||| 2 ^ n)
        · rw [if_pos (.inr h2), if_neg (fun z => by have := z.1.2; omega)]
        · rw [if_neg (by rintro (z | z); exact hcn z; exact h2 z)]
          show (if Vamvsb.stateCost t m s ≤ Vamvsb.stateCost t m (Vamvsb.add s (item t n)) then _ else _) = _
          rw [S.cost m, S2.cost m]
          cases b with
          | none =>
            by_cases h3 : cost t m.changes K ≤ cost t m.changes (K ||| 2 ^ n)
            · rw [if_pos h3, if_neg (fun z => Nat.not_lt.mpr h3 z.2)]
            · rw [if_neg h3, if_pos ⟨⟨rfl, Nat.not_lt.mp h2⟩, Nat.not_le.mp h3⟩]
              rfl
          | some x =>
            obtain ⟨_, _, _, hx⟩ := hs x rfl
            by_cases h3 : cost t m.changes K ≤ cost t m.changes (K ||| 2 ^ n)
            · rw [if_pos h3, if_neg (fun z => by have h9 : cost t m.changes (K ||| 2 ^ n) < cost t m.changes (K ||| 2 ^ x) := z.2; omega)]
            · rw [if_neg h3]
              show (if cost t m.changes (K ||| 2 ^ n) < cost t m.changes (K ||| 2 ^ x) then some (item t n, cost t m.changes (K ||| 2 ^ n)) else some (item t x, cost t m.changes (K ||| 2 ^ x))) = _
              by_cases h4 : cost t m.changes (K ||| 2 ^ n) < cost t m.changes (K ||| 2 ^ x)
              · rw [if_pos h4, if_pos ⟨⟨rfl, Nat.not_lt.mp h2⟩, h4⟩]
                rfl
              · rw [if_neg h4, if_neg (fun z => h4 z.2)]
                rfl
  unfold Vamvsb.nextBy
  rw [items_eq]
  refine (congrArg (Option.map fun x : Item × Nat => x.1) (key (mm t) (Nat.le_refl _))).trans ?_
  unfold nxt
  cases nsF t m.changes m.room K (mm t) <;> rfl
theorem stepsBy_eq {t : Tb} {m : Terms} : ∀ (n K : Nat) (s : State), StOf t K s → (Vamvsb.stepsBy t m (Vamvsb.items t) n s).kept = s.kept ++ sbs t m.changes m.room n K ∧
    StOf t ((sbs t m.changes m.room n K).foldl (fun k g => k ||| 2 ^ g) K) (Vamvsb.stepsBy t m (Vamvsb.items t) n s)
  | 0, K, s, S => ⟨(List.append_nil _).symm, S⟩
  | n + 1, K, s, S => by
    rw [Vamvsb.stepsBy, sbs, nextBy_eq S]
    cases e : nxt t m.changes m.room K with
    | none => exact ⟨(List.append_nil _).symm, S⟩
    | some g =>
      obtain ⟨h1, h2, _⟩ := nsF_some _ _ e
      obtain ⟨i1, i2⟩ := stepsBy_eq n (K ||| 2 ^ g) _ (S.add h1 h2)
      refine ⟨?_, i2⟩
      show (Vamvsb.stepsBy t m (Vamvsb.items t) n (Vamvsb.add s (item t g))).kept = _
      rw [i1]
      show (s.kept ++ [g]) ++ _ = _
      rw [List.append_assoc]
      rfl
end Bk
set_option linter.all false
namespace Bk
open Vamvsb (State Item Terms Price intoCurve fall)
/-! ### the least cost with so many lines -/
def IsM (t : Tb) (c : Nat) (S : Nat → Prop) (x y : Nat) : Prop := (∃ K, S K ∧ lines t K = x ∧ cost t c K = y) ∧ ∀ K, S K → lines t K = x → y ≤ cost t c K
def Rep (t : Tb) (c : Nat) (S : Nat → Prop) (x : Nat) : Option Nat → Prop
  | none => ∀ K, S K → lines t K ≠ x
  | some y => IsM t c S x y
/-- one more set -/
def put1 (t : Tb) (c J x : Nat) (o : Option Nat) : Option Nat := if lines t J = x then some (match o with | none => cost t c J | some y => Nat.min y (cost t c J)) else o
theorem Rep.step {t : Tb} {c x J : Nat} {S S' : Nat → Prop} {o : Option Nat} (hS : ∀ K, S' K ↔ S K ∨ K = J) (h : Rep t c S x o) : Rep t c S' x (put1 t c J x o) := by
  unfold put1
  by_cases e : lines t J = x
  · rw [if_pos e]
    cases o with
    | none =>
      refine ⟨⟨J, (hS J).mpr (.inr rfl), e, rfl⟩, fun K hK hx => ?_⟩
      rcases (hS K).mp hK with q | rfl
      · exact absurd hx (h K q)
      · exact Nat.le_refl _
    | some y =>
      obtain ⟨⟨K0, k1, k2, k3⟩, h2⟩ := h
      show IsM t c S' x (min y (cost t c J))
      refine ⟨?_, fun K hK hx => ?_⟩
      · by_cases l : y ≤ cost t c J
        · exact ⟨K0, (hS K0).mpr (.inl k1), k2, by rw [k3]; omega⟩
        · exact ⟨J, (hS J).mpr (.inr rfl), e, by omega⟩
      · rcases (hS K).mp hK with q | rfl
        · have := h2 K q hx; omega
        · omega
  · rw [if_neg e]
    cases o with
    | none =>
      intro K hK
      rcases (hS K).mp hK with q | rfl
      · exact h K q
      · exact e
    | some y =>
      obtain ⟨⟨K0, k1, k2, k3⟩, h2⟩ := h
      refine ⟨⟨K0, (hS K0).mpr (.inl k1), k2, k3⟩, fun K hK hx => ?_⟩
      rcases (hS K).mp hK with q | rfl
      · exact h2 K q hx
      · exact absurd hx e
theorem Rep.unique {t : Tb} {c x : Nat} {S S' : Nat → Prop} {o o' : Option Nat} (hS : ∀ K, S K ↔ S' K) (h : Rep t c S x o) (h' : Rep t c S' x o') : o = o' := by
  cases o with
  | none =>
    cases o' with
    | none => rfl
    | some y =>
      obtain ⟨⟨K, k1, k2, _⟩, _⟩ := h'
      exact absurd k2 (h K ((hS K).mpr k1))
  | some y =>
    obtain ⟨⟨K, k1, k2, k3⟩, m1⟩ := h
    cases o' with
    | none => exact absurd k2 (h' K ((hS K).mp k1))
    | some y' =>
      obtain ⟨⟨K', j1, j2, j3⟩, m2⟩ := h'
      have a1 := m1 K' ((hS K').mpr j1) j2
      have a2 := m2 K ((hS K).mp k1) k2
      congr 1
      omega
/-- by the sets below n -/
def mnC (t : Tb) (c x : Nat) : Nat → Option Nat
  | 0 => none
  | n + 1 => put1 t c n x (mnC t c x n)
theorem mnC_rep (t : Tb) (c x : Nat) : ∀ n, Rep t c (fun K => K < n) x (mnC t c x n)
  | 0 => fun K hK => absurd hK (Nat.not_lt_zero K)
  | n + 1 => (mnC_rep t c x n).step fun K => by show K < n + 1 ↔ K < n ∨ K = n; omega
/-! ### sorted lists of pairs -/
def look : List (Nat × Nat) → Nat → Option Nat
  | [], _ => none
  | a :: l, x => if a.1 = x then some a.2 else look l x
abbrev SrtP (l : List (Nat × Nat)) : Prop := l.Pairwise fun a b => a.1 < b.1
theorem look_lt : ∀ {l : List (Nat × Nat)} {x : Nat}, (∀ a ∈ l, x < a.1) → look l x = none
  | [], _, _ => rfl
  | a :: l, x, h => by
    have := h a (by simp)
    unfold look
    rw [if_neg (by omega)]
    exact look_lt fun b hb => h b (List.mem_cons_of_mem _ hb)
theorem into_mem {r c : Nat} : ∀ {l : List (Nat × Nat)} {a : Nat × Nat}, a ∈ intoCurve r c l → a.1 = r ∨ ∃ b ∈ l, b.1 = a.1
  | [], a, h => .inl (by simp [intoCurve] at h; rw [h])
  | x :: l, a, h => by
    unfold intoCurve at h
    split at h
    · rcases List.mem_cons.mp h with rfl | h
      · exact .inl rfl
      · exact .inr ⟨a, h, rfl⟩
    · split at h
      · rcases List.mem_cons.mp h with rfl | h
        · exact .inr ⟨x, by simp, rfl⟩
        · exact .inr ⟨a, List.mem_cons_of_mem _ h, rfl⟩
      · rcases List.mem_cons.mp h with rfl | h
        · exact .inr ⟨a, by simp, rfl⟩
        · rcases into_mem h with h | ⟨b, hb, e⟩
          · exact .inl h
          · exact .inr ⟨b, List.mem_cons_of_mem _ hb, e⟩
theorem into_srt {r c : Nat} : ∀ {l : List (Nat × Nat)}, SrtP l → SrtP (intoCurve r c l)
  | [], _ => by unfold intoCurve; exact List.pairwise_singleton _ _
  | x :: l, h => by
    obtain ⟨h1, h2⟩ := List.pairwise_cons.mp h
    unfold intoCurve
    split
    · rename_i q
      refine List.pairwise_cons.mpr ⟨fun b hb => ?_, h⟩
      rcases List.mem_cons.mp hb with rfl | hb
      · exact q
      · have := h1 b hb; show r < b.1; omega
    · split
      · exact List.pairwise_cons.mpr ⟨h1, h2⟩
      · refine List.pairwise_cons.mpr ⟨fun b hb => ?_, into_srt h2⟩
        rcases into_mem hb with q | ⟨d, hd, e⟩
        · omega
        · have := h1 d hd; omega
theorem look_into {r c x : Nat} : ∀ {l : List (Nat × Nat)}, SrtP l → look (intoCurve r c l) x = if r = x then some (match look l x with | none => c | some y => Nat.min y c) else look l x
  | [], _ => rfl
  | a :: l, h => by
    obtain ⟨h1, h2⟩ := List.pairwise_cons.mp h
    unfold intoCurve
    split
    · rename_i q
      show (if r = x then some c else look (a :: l) x) = _
      by_cases e : r = x
      · rw [if_pos e, if_pos e]
        have : look (a :: l) x = none := look_lt fun b hb => by
          rcases List.mem_cons.mp hb with rfl | hb
          · omega
          · have := h1 b hb; omega
        rw [this]
      · rw [if_neg e, if_neg e]
    · split
      · rename_i q
        show (if a.1 = x then some (Nat.min a.2 c) else look l x) = _
        by_cases e : r = x
        · rw [if_pos e, if_pos (by omega)]
          have : look (a :: l) x = some a.2 := if_pos (by omega)
          rw [this]
        · rw [if_neg e, if_neg (by omega)]
          exact (if_neg (by omega)).symm
      · show (if a.1 = x then some a.2 else look (intoCurve r c l) x) = _
        rw [look_into h2]
        by_cases e : r = x
        · rw [if_pos e, if_neg (by omega)]
          have : look (a :: l) x = look l x := if_neg (by omega)
          rw [this, if_pos e]
        · rw [if_neg e, if_neg e]
          rfl
theorem look_ext : ∀ {l l' : List (Nat × Nat)}, SrtP l → SrtP l' → (∀ x, look l x = look l' x) → l = l'
  | [], [], _, _, _ => rfl
  | [], b :: s, _, _, h => by have := h b.1; rw [show look (b :: s) b.1 = some b.2 from if_pos rfl] at this; cases this
  | a :: r, [], _, _, h => by have := h a.1; rw [show look (a :: r) a.1 = some a.2 from if_pos rfl] at this; cases this
  | a :: r, b :: s, h1, h2, h => by
    obtain ⟨p1, p2⟩ := List.pairwise_cons.mp h1
    obtain ⟨q1, q2⟩ := List.pairwise_cons.mp h2
    have e1 : a.1 = b.1 := by
      rcases Nat.lt_trichotomy a.1 b.1 with c | c | c
      · have z := h a.1
        rw [show look (a :: r) a.1 = some a.2 from if_pos rfl, look_lt (l := b :: s) fun d hd => by
          rcases List.mem_cons.mp hd with rfl | hd
          · exact c
          · have := q1 d hd; omega] at z
        cases z
      · exact c
      · have z := h b.1
        rw [show look (b :: s) b.1 = some b.2 from if_pos rfl, look_lt (l := a :: r) fun d hd => by
          rcases List.mem_cons.mp hd with rfl | hd
          · exact c
          · have := p1 d hd; omega] at z
        cases z
    have e2 : a.2 = b.2 := by
      have z := h a.1
      rw [show look (a :: r) a.1 = some a.2 from if_pos rfl, show look (b :: s) a.1 = some b.2 from if_pos e1.symm] at z
      exact Option.some.inj z
    have e : a = b := Prod.ext e1 e2
    subst e
    congr 1
    refine look_ext p2 q2 fun x => ?_
    by_cases c : a.1 = x
    · rw [look_lt (l := r) fun d hd => by rw [← c]; exact p1 d hd, look_lt (l := s) fun d hd => by rw [← c]; exact q1 d hd]
    · have z := h x
      rw [show look (a :: r) x = look r x from if_neg c, show look (a :: s) x = look s x from if_neg c] at z
      exact z
theorem look_map (v : Nat → Nat) (x : Nat) : ∀ l : List Nat, look (l.map fun z => (z, v z)) x = if x ∈ l then some (v x) else none
  | [] => by simp [look]
  | a :: l => by
    rw [List.map_cons]
    show (if a = x then some (v a) else look (l.map fun z => (z, v z)) x) = _
    rw [look_map v x l]
    by_cases e : a = x
    · subst e; simp
    · have : ¬ x = a := fun z => e z.symm
      simp [e, this]
/-! ### the curve -/
theorem into_rep {t : Tb} {c : Nat} : ∀ (L : List Nat) (S : Nat → Prop) (l : List (Nat × Nat)), SrtP l → (∀ x, Rep t c S x (look l x)) →
    SrtP (L.foldl (fun l K => intoCurve (lines t K) (cost t c K) l) l) ∧ ∀ x, Rep t c (fun K => S K ∨ K ∈ L) x (look (L.foldl (fun l K => intoCurve (lines t K) (cost t c K) l) l) x)
  | [], S, l, h1, h2 => ⟨h1, fun x => by
    have : (fun K => S K ∨ K ∈ ([] : List Nat)) = S := by funext K; simp
    rw [this]; exact h2 x⟩
  | J :: r, S, l, h1, h2 => by
    rw [List.foldl_cons]
    obtain ⟨i1, i2⟩ := into_rep (t := t) (c := c) r (fun K => S K ∨ K = J) (intoCurve (lines t J) (cost t c J) l) (into_srt h1) fun x => by
      rw [look_into h1]
      exact (h2 x).step fun K => Iff.rfl
    refine ⟨i1, fun x => ?_⟩
    have : (fun K => S K ∨ K ∈ J :: r) = fun K => (S K ∨ K = J) ∨ K ∈ r := by
      funext K
      rw [List.mem_cons, or_assoc]
    rw [this]
    exact i2 x
theorem fold_stK {t : Tb} {m : Terms} : ∀ (L : List Nat) (l : List (Nat × Nat)), (∀ J ∈ L, J < 2 ^ mm t) →
    (L.map (stK t)).foldl (fun l s => intoCurve s.room (Vamvsb.stateCost t m s) l) l = L.foldl (fun l K => intoCurve (lines t K) (cost t m.changes K) l) l
  | [], _, _ => rfl
  | J :: r, l, h => by
    rw [List.map_cons, List.foldl_cons, List.foldl_cons, fold_stK r _ fun x hx => h x (List.mem_cons_of_mem _ hx), (stK_of t (h J (by simp))).cost m]
    rfl
/-- all rooms, each with the least cost for just so many lines -/
theorem curve_law {t : Tb} {m : Terms} {zs : List Nat} (hs : zs.Pairwise (· < ·)) (hz : ∀ x, x ∈ zs ↔ (mnC t m.changes x (2 ^ mm t)).isSome = true) :
    Vamvsb.curve t m = fall none (zs.map fun x => (x, (mnC t m.changes x (2 ^ mm t)).getD 0)) := by
  unfold Vamvsb.curve
  rw [walk_flat, flat_all, fold_stK _ _ fun J hJ => mem_KL.mp hJ]
  congr 1
  obtain ⟨i1, i2⟩ := into_rep (t := t) (c := m.changes) (KL t) (fun _ => False) [] .nil fun x K hK => hK.elim
  refine look_ext i1 ?_ fun x => ?_
  · unfold SrtP
    rw [List.pairwise_map]
    exact hs
  · rw [look_map]
    have e := Rep.unique (fun K => by rw [mem_KL]; simp) (i2 x) (mnC_rep t m.changes x (2 ^ mm t))
    rw [e]
    by_cases c : x ∈ zs
    · rw [if_pos c]
      have := (hz x).mp c
      cases q : mnC t m.changes x (2 ^ mm t) with
      | none => rw [q] at this; cases this
      | some y => rfl
    · rw [if_neg c]
      cases q : mnC t m.changes x (2 ^ mm t) with
      | none => rfl
      | some y => exact absurd ((hz x).mpr (by rw [q]; rfl)) c
/-- the rooms that bring something, one by one -/
def fallS (acc : List (Nat × Nat)) (p : Nat × Nat) : List (Nat × Nat) := match acc.getLast? with
  | none => acc ++ [p]
  | some q => if p.2 < q.2 then acc ++ [p] else acc
theorem fallS_eq : ∀ (l acc : List (Nat × Nat)), l.foldl fallS acc = acc ++ fall (acc.getLast?.map (·.2)) l
  | [], acc => (List.append_nil _).symm
  | x :: l, acc => by
    rw [List.foldl_cons, fallS_eq l]
    unfold fallS
    cases e : acc.getLast? with
    | none =>
      show (acc ++ [x]) ++ fall ((acc ++ [x]).getLast?.map (·.2)) l = acc ++ (x :: fall (some x.2) l)
      rw [List.getLast?_append, List.append_assoc]
      rfl
    | some q =>
      show (if x.2 < q.2 then acc ++ [x] else acc) ++ fall ((if x.2 < q.2 then acc ++ [x] else acc).getLast?.map (·.2)) l = acc ++ (if x.2 < q.2 then x :: fall (some x.2) l else fall (some q.2) l)
      by_cases c : x.2 < q.2
      · rw [if_pos c, if_pos c, List.getLast?_append, List.append_assoc]
        rfl
      · rw [if_neg c, if_neg c, e]
        rfl
theorem fallS_nil (l : List (Nat × Nat)) : l.foldl fallS [] = fall none l := by rw [fallS_eq]; rfl
theorem fallS_len : ∀ (l acc : List (Nat × Nat)), (l.foldl fallS acc).length ≤ acc.length + l.length
  | [], acc => Nat.le_refl _
  | x :: l, acc => by
    rw [List.foldl_cons]
    have h := fallS_len l (fallS acc x)
    have h2 : (fallS acc x).length ≤ acc.length + 1 := by
      unfold fallS
      split
      · rw [List.length_append]; exact Nat.le_refl _
      · split
        · rw [List.length_append]; exact Nat.le_refl _
        · omega
    rw [List.length_cons]
    omega
end Bk
set_option Elab.async false
set_option linter.all false
set_option maxRecDepth 100000
set_option maxHeartbeats 4000000
namespace Bw
open PySem PySem.Spec PyProof.Rows L2
def d_size_of : He.DefD := ⟨("size_of", none), "size_of", "size_of", defArgs (top 4), defBody (top 4), defScope (top 4), [], []⟩
def d_is_within : He.DefD := ⟨("is_within", none), "is_within", "is_within", defArgs (top 5), defBody (top 5), defScope (top 5), [], []⟩
def d_least_bit : He.DefD := ⟨("least_bit", none), "least_bit", "least_bit", defArgs (top 6), defBody (top 6), defScope (top 6), [], []⟩
def d_last_bits : He.DefD := ⟨("last_bits", none), "last_bits", "last_bits", defArgs (top 7), defBody (top 7), defScope (top 7), [], []⟩
def d_read_costs : He.DefD := ⟨("read_costs", none), "read_costs", "read_costs", defArgs (top 8), defBody (top 8), defScope (top 8), [], []⟩
def d_sums_by : He.DefD := ⟨("sums_by", none), "sums_by", "sums_by", defArgs (top 9), defBody (top 9), defScope (top 9), [], []⟩
def d_prepare : He.DefD := ⟨("prepare", none), "prepare", "prepare", defArgs (top 10), defBody (top 10), defScope (top 10), [], []⟩
def d_changes_cost : He.DefD := ⟨("changes_cost", none), "changes_cost", "changes_cost", defArgs (top 11), defBody (top 11), defScope (top 11), [], []⟩
def d_cost_of : He.DefD := ⟨("cost_of", none), "cost_of", "cost_of", defArgs (top 12), defBody (top 12), defScope (top 12), [], []⟩
def d_members : He.DefD := ⟨("members", none), "members", "members", defArgs (top 13), defBody (top 13), defScope (top 13), [], []⟩
def d_best_of : He.DefD := ⟨("best_of", none), "best_of", "best_of", defArgs (top 14), defBody (top 14), defScope (top 14), [], []⟩
def d_next_step : He.DefD := ⟨("next_step", none), "next_step", "next_step", defArgs (top 15), defBody (top 15), defScope (top 15), [], []⟩
def d_step_by_step : He.DefD := ⟨("step_by_step", none), "step_by_step", "step_by_step", defArgs (top 16), defBody (top 16), defScope (top 16), [], []⟩
def d_set_of : He.DefD := ⟨("set_of", none), "set_of", "set_of", defArgs (top 17), defBody (top 17), defScope (top 17), [], []⟩
def d_read_by : He.DefD := ⟨("read_by", none), "read_by", "read_by", defArgs (top 18), defBody (top 18), defScope (top 18), [], []⟩
def d_readers_of : He.DefD := ⟨("readers_of", none), "readers_of", "readers_of", defArgs (top 19), defBody (top 19), defScope (top 19), [], []⟩
def d_rooms_that_bring : He.DefD := ⟨("rooms_that_bring", none), "rooms_that_bring", "rooms_that_bring", defArgs (top 20), defBody (top 20), defScope (top 20), [], []⟩
def d_spelled : He.DefD := ⟨("spelled", none), "spelled", "spelled", defArgs (top 36), defBody (top 36), defScope (top 36), [], []⟩
def d_is_letter : He.DefD := ⟨("is_letter", none), "is_letter", "is_letter", defArgs (top 37), defBody (top 37), defScope (top 37), [], []⟩
def d_is_digit : He.DefD := ⟨("is_digit", none), "is_digit", "is_digit", defArgs (top 38), defBody (top 38), defScope (top 38), [], []⟩
def d_behind_remark : He.DefD := ⟨("behind_remark", none), "behind_remark", "behind_remark", defArgs (top 39), defBody (top 39), defScope (top 39), [], []⟩
def d_behind_run : He.DefD := ⟨("behind_run", none), "behind_run", "behind_run", defArgs (top 40), defBody (top 40), defScope (top 40), [], []⟩
def d_word_token : He.DefD := ⟨("word_token", none), "word_token", "word_token", defArgs (top 41), defBody (top 41), defScope (top 41), [], []⟩
def d_number_token : He.DefD := ⟨("number_token", none), "number_token", "number_token", defArgs (top 42), defBody (top 42), defScope (top 42), [], []⟩
def d_sign_token : He.DefD := ⟨("sign_token", none), "sign_token", "sign_token", defArgs (top 43), defBody (top 43), defScope (top 43), [], []⟩
def d_token_at : He.DefD := ⟨("token_at", none), "token_at", "token_at", defArgs (top 44), defBody (top 44), defScope (top 44), [], []⟩
def d_tokens_of : He.DefD := ⟨("tokens_of", none), "tokens_of", "tokens_of", defArgs (top 45), defBody (top 45), defScope (top 45), [], []⟩
def d_place_at : He.DefD := ⟨("place_at", none), "place_at", "place_at", defArgs (top 65), defBody (top 65), defScope (top 65), [], []⟩
def d_fault_if : He.DefD := ⟨("fault_if", none), "fault_if", "fault_if", defArgs (top 66), defBody (top 66), defScope (top 66), [], []⟩
def d_is_form : He.DefD := ⟨("is_form", none), "is_form", "is_form", defArgs (top 67), defBody (top 67), defScope (top 67), [], []⟩
def d_is_at : He.DefD := ⟨("is_at", none), "is_at", "is_at", defArgs (top 68), defBody (top 68), defScope (top 68), [], []⟩
def d_take : He.DefD := ⟨("take", none), "take", "take", defArgs (top 69), defBody (top 69), defScope (top 69), [], []⟩
def d_told_next : He.DefD := ⟨("told_next", none), "told_next", "told_next", defArgs (top 70), defBody (top 70), defScope (top 70), [], []⟩
def d_comes : He.DefD := ⟨("comes", none), "comes", "comes", defArgs (top 71), defBody (top 71), defScope (top 71), [], []⟩
def d_want : He.DefD := ⟨("want", none), "want", "want", defArgs (top 72), defBody (top 72), defScope (top 72), [], []⟩
def d_read_column : He.DefD := ⟨("read_column", none), "read_column", "read_column", defArgs (top 73), defBody (top 73), defScope (top 73), [], []⟩
def d_read_columns : He.DefD := ⟨("read_columns", none), "read_columns", "read_columns", defArgs (top 74), defBody (top 74), defScope (top 74), [], []⟩
def d_read_number : He.DefD := ⟨("read_number", none), "read_number", "read_number", defArgs (top 75), defBody (top 75), defScope (top 75), [], []⟩
def d_read_row : He.DefD := ⟨("read_row", none), "read_row", "read_row", defArgs (top 76), defBody (top 76), defScope (top 76), [], []⟩
def d_read_asked : He.DefD := ⟨("read_asked", none), "read_asked", "read_asked", defArgs (top 77), defBody (top 77), defScope (top 77), [], []⟩
def d_read_question : He.DefD := ⟨("read_question", none), "read_question", "read_question", defArgs (top 78), defBody (top 78), defScope (top 78), [], []⟩
def d_read_line : He.DefD := ⟨("read_line", none), "read_line", "read_line", defArgs (top 79), defBody (top 79), defScope (top 79), [], []⟩
def d_read_table : He.DefD := ⟨("read_table", none), "read_table", "read_table", defArgs (top 80), defBody (top 80), defScope (top 80), [], []⟩
def d_with_commas : He.DefD := ⟨("with_commas", none), "with_commas", "with_commas", defArgs (top 81), defBody (top 81), defScope (top 81), [], []⟩
def d_names_in : He.DefD := ⟨("names_in", none), "names_in", "names_in", defArgs (top 82), defBody (top 82), defScope (top 82), [], []⟩
def d_shown_question : He.DefD := ⟨("shown_question", none), "shown_question", "shown_question", defArgs (top 83), defBody (top 83), defScope (top 83), [], []⟩
def d_shown_table : He.DefD := ⟨("shown_table", none), "shown_table", "shown_table", defArgs (top 84), defBody (top 84), defScope (top 84), [], []⟩
def d_refuse_if : He.DefD := ⟨("refuse_if", none), "refuse_if", "refuse_if", defArgs (top 96), defBody (top 96), defScope (top 96), [], []⟩
def d_listed : He.DefD := ⟨("listed", none), "listed", "listed", defArgs (top 97), defBody (top 97), defScope (top 97), [], []⟩
def d_load : He.DefD := ⟨("load", none), "load", "load", defArgs (top 98), defBody (top 98), defScope (top 98), [], []⟩
def d_terms : He.DefD := ⟨("terms", none), "terms", "terms", defArgs (top 99), defBody (top 99), defScope (top 99), [], []⟩
def d_best_set : He.DefD := ⟨("best_set", none), "best_set", "best_set", defArgs (top 100), defBody (top 100), defScope (top 100), [], []⟩
def d_best : He.DefD := ⟨("best", none), "best", "best", defArgs (top 101), defBody (top 101), defScope (top 101), [], []⟩
def d_steps : He.DefD := ⟨("steps", none), "steps", "steps", defArgs (top 102), defBody (top 102), defScope (top 102), [], []⟩
def d_few : He.DefD := ⟨("few", none), "few", "few", defArgs (top 103), defBody (top 103), defScope (top 103), [], []⟩
def d_check_grouping : He.DefD := ⟨("check_grouping", none), "check_grouping", "check_grouping", defArgs (top 104), defBody (top 104), defScope (top 104), [], []⟩
def d_price : He.DefD := ⟨("price", none), "price", "price", defArgs (top 105), defBody (top 105), defScope (top 105), [], []⟩
def d_why : He.DefD := ⟨("why", none), "why", "why", defArgs (top 106), defBody (top 106), defScope (top 106), [], []⟩
def d_curve : He.DefD := ⟨("curve", none), "curve", "curve", defArgs (top 107), defBody (top 107), defScope (top 107), [], []⟩
def d_call_on : He.DefD := ⟨("call_on", none), "call_on", "call_on", defArgs (top 108), defBody (top 108), defScope (top 108), [], []⟩
def d_answer_to : He.DefD := ⟨("answer_to", none), "answer_to", "answer_to", defArgs (top 109), defBody (top 109), defScope (top 109), [], []⟩
def d_answers : He.DefD := ⟨("answers", none), "answers", "answers", defArgs (top 110), defBody (top 110), defScope (top 110), [], []⟩
def d_Held_init : He.DefD := ⟨("Held", some "__init__"), "__init__", "Held.__init__", defArgs (inClass (top 3) 0), defBody (inClass (top 3) 0), defScope (inClass (top 3) 0), [], []⟩
def d_Fault_init : He.DefD := ⟨("Fault", some "__init__"), "__init__", "Fault.__init__", defArgs (inClass (top 34) 0), defBody (inClass (top 34) 0), defScope (inClass (top 34) 0), [], []⟩
def d_Token_init : He.DefD := ⟨("Token", some "__init__"), "__init__", "Token.__init__", defArgs (inClass (top 35) 0), defBody (inClass (top 35) 0), defScope (inClass (top 35) 0), [], []⟩
def d_Row_init : He.DefD := ⟨("Row", some "__init__"), "__init__", "Row.__init__", defArgs (inClass (top 61) 0), defBody (inClass (top 61) 0), defScope (inClass (top 61) 0), [], []⟩
def d_Question_init : He.DefD := ⟨("Question", some "__init__"), "__init__", "Question.__init__", defArgs (inClass (top 62) 0), defBody (inClass (top 62) 0), defScope (inClass (top 62) 0), [], []⟩
def d_Table_init : He.DefD := ⟨("Table", some "__init__"), "__init__", "Table.__init__", defArgs (inClass (top 63) 0), defBody (inClass (top 63) 0), defScope (inClass (top 63) 0), [], []⟩
def d_Reader_init : He.DefD := ⟨("Reader", some "__init__"), "__init__", "Reader.__init__", defArgs (inClass (top 64) 0), defBody (inClass (top 64) 0), defScope (inClass (top 64) 0), [], []⟩
def d_Refusal_init : He.DefD := ⟨("Refusal", some "__init__"), "__init__", "Refusal.__init__", defArgs (inClass (top 94) 0), defBody (inClass (top 94) 0), defScope (inClass (top 94) 0), [], []⟩
def d_Desk_init : He.DefD := ⟨("Desk", some "__init__"), "__init__", "Desk.__init__", defArgs (inClass (top 95) 0), defBody (inClass (top 95) 0), defScope (inClass (top 95) 0), [], []⟩
def fa : List He.Fa := ([.glo "size_of", .glo "is_within", .glo "least_bit", .glo "last_bits", .glo "read_costs", .glo "sums_by", .glo "prepare", .glo "changes_cost", .glo "cost_of", .glo "members", .glo "best_of", .glo "next_step", .glo "step_by_step", .glo "set_of", .glo "read_by", .glo "readers_of", .glo "rooms_that_bring", .glo "spelled", .glo "is_letter", .glo "is_digit"] : List He.Fa) ++ ([.glo "behind_remark", .glo "behind_run", .glo "word_token", .glo "number_token", .glo "sign_token", .glo "token_at", .glo "tokens_of", .glo "place_at", .glo "fault_if", .glo "is_form", .glo "is_at", .glo "take", .glo "told_next", .glo "comes", .glo "want", .glo "read_column", .glo "read_columns", .glo "read_number", .glo "read_row", .glo "read_asked"] : List He.Fa) ++ ([.glo "read_question", .glo "read_line", .glo "read_table", .glo "with_commas", .glo "names_in", .glo "shown_question", .glo "shown_table", .glo "refuse_if", .glo "listed", .glo "load", .glo "terms", .glo "best_set", .glo "best", .glo "steps", .glo "few", .glo "check_grouping", .glo "price", .glo "why", .glo "curve", .glo "call_on"] : List He.Fa) ++ ([.glo "answer_to", .glo "answers", .glo "Held", .glo "Fault", .glo "Token", .glo "Row", .glo "Question", .glo "Table", .glo "Reader", .glo "Refusal", .glo "Desk", .glo "BLANKS", .glo "WORDS", .glo "NUMBERS", .glo "WITH_LIST", .free "ValueError", .free "enumerate", .free "int", .free "len", .free "list"] : List He.Fa) ++ ([.free "ord", .free "range", .free "set", .free "sorted", .free "str", .free "sum", .free "tuple", .free "zip", .int "READ_AND_WRITTEN" (2), .int "FIRST_ROOM" (1000000), .int "REMARK" (35), .int "LINE_END" (10), .int "MOST_NAME" (16), .int "MOST_NUMBER" (1000000000), .int "NO_TOKEN" (2), .int "MOST_TEXT" (4096), .int "TOO_LONG" (1), .int "NOT_ALLOWED" (3), .int "TOO_MANY" (4), .int "TOLD" (5)] : List He.Fa) ++ ([.int "TWICE" (6), .int "TOO_GREAT" (7), .int "NO_COLUMN" (8), .int "MOST_COLUMNS" (4), .int "MOST_ROWS" (16), .int "MOST_QUESTIONS" (8), .int "MOST_VALUE" (9), .int "MOST_SUM" (1000), .int "MOST_TIMES" (99), .int "NO_TABLE" (-1), .int "NO_SUCH" (-2), .int "OUT" (-3), .int "OUT_CHANGES" (-4), .int "MOST_CHANGES" (1000), .int "MOST_FEW" (4), .str "SIGNS" ",:;-", .str "NAME" "name", .str "WORD" "word", .str "NUMBER" "number", .str "SIGN" "sign"] : List He.Fa) ++ ([.cls "Held", .mkr "Held", .noat "Held" "table", .noat "Held" "room", .noat "Held" "changes", .noat "Held" "sizes", .noat "Held" "asked", .noat "Held" "lines", .noat "Held" "counts", .noat "Fault" "code", .noat "Fault" "where", .cls "Token", .mkr "Token", .noat "Token" "begins", .noat "Token" "ends", .noat "Token" "form", .noat "Token" "told", .cls "Row", .mkr "Row", .noat "Row" "cells"] : List He.Fa) ++ ([.noat "Row" "told", .cls "Question", .mkr "Question", .noat "Question" "grouping", .noat "Question" "times", .cls "Table", .mkr "Table", .noat "Table" "columns", .noat "Table" "rows", .noat "Table" "questions", .cls "Reader", .mkr "Reader", .noat "Reader" "tokens", .noat "Reader" "length", .noat "Reader" "at", .noat "Refusal" "number", .cls "Desk", .mkr "Desk", .noat "Desk" "held"] : List He.Fa)
def fn : List He.DefD := ([d_size_of, d_is_within, d_least_bit, d_last_bits, d_read_costs, d_sums_by, d_prepare, d_changes_cost, d_cost_of, d_members, d_best_of, d_next_step, d_step_by_step, d_set_of, d_read_by, d_readers_of, d_rooms_that_bring, d_spelled, d_is_letter, d_is_digit] : List He.DefD) ++ ([d_behind_remark, d_behind_run, d_word_token, d_number_token, d_sign_token, d_token_at, d_tokens_of, d_place_at, d_fault_if, d_is_form, d_is_at, d_take, d_told_next, d_comes, d_want, d_read_column, d_read_columns, d_read_number, d_read_row, d_read_asked] : List He.DefD) ++ ([d_read_question, d_read_line, d_read_table, d_with_commas, d_names_in, d_shown_question, d_shown_table, d_refuse_if, d_listed, d_load, d_terms, d_best_set, d_best, d_steps, d_few, d_check_grouping, d_price, d_why, d_curve, d_call_on] : List He.DefD) ++ ([d_answer_to, d_answers, d_Held_init, d_Fault_init, d_Token_init, d_Row_init, d_Question_init, d_Table_init, d_Reader_init, d_Refusal_init, d_Desk_init] : List He.DefD)
def more (K : PySem.W.Frag) : Bool := excB K "Fault" && (excB K "Refusal" && (He.tupB K "BLANKS" [.int 32, .int 9, .int 10] && (He.tupB K "WORDS" [.str "columns", .str "row", .str "ask", .str "times"] && (He.tupB K "NUMBERS" [.int 0, .int 0, .int 2, .int 0, .int 0, .int 1, .int 0, .int 1, .int 0] && (He.tupB K "WITH_LIST" [.int 0, .int 6])))))
def names : List PySem.Str := (["READ_AND_WRITTEN", "FIRST_ROOM", "Held", "size_of", "is_within", "least_bit", "last_bits", "read_costs", "sums_by", "prepare", "changes_cost", "cost_of", "members", "best_of", "next_step", "step_by_step", "set_of", "read_by", "readers_of", "rooms_that_bring", "BLANKS", "REMARK", "LINE_END", "MOST_NAME", "MOST_NUMBER", "SIGNS", "WORDS", "NAME", "WORD", "NUMBER"] : List PySem.Str) ++ (["SIGN", "NO_TOKEN", "Fault", "Token", "spelled", "is_letter", "is_digit", "behind_remark", "behind_run", "word_token", "number_token", "sign_token", "token_at", "tokens_of", "MOST_TEXT", "TOO_LONG", "NOT_ALLOWED", "TOO_MANY", "TOLD", "TWICE", "TOO_GREAT", "NO_COLUMN", "MOST_COLUMNS", "MOST_ROWS", "MOST_QUESTIONS", "MOST_VALUE", "MOST_SUM", "MOST_TIMES", "Row", "Question"] : List PySem.Str) ++ (["Table", "Reader", "place_at", "fault_if", "is_form", "is_at", "take", "told_next", "comes", "want", "read_column", "read_columns", "read_number", "read_row", "read_asked", "read_question", "read_line", "read_table", "with_commas", "names_in", "shown_question", "shown_table", "NO_TABLE", "NO_SUCH", "OUT", "OUT_CHANGES", "MOST_CHANGES", "MOST_FEW", "NUMBERS", "WITH_LIST"] : List PySem.Str) ++ (["Refusal", "Desk", "refuse_if", "listed", "load", "terms", "best_set", "best", "steps", "few", "check_grouping", "price", "why", "curve", "call_on", "answer_to"] : List PySem.Str)
/-- what the top has written -/
structure Txt (K : PySem.W.Frag) (mg : Str → Option Value) : Prop where
  c : SaysM fa fn more K
  h : ∃ h : Heap, K.In h ∧ h.Ns mainGlobals mg
section
variable {K : PySem.W.Frag} {mg : Str → Option Value}
theorem Txt.gl (T : Txt K mg) {x : Str} (c : (He.Fa.glo x).ok K = true) : mg x = some (.ref (He.ga K x)) := by
  obtain ⟨h, X, G⟩ := T.h
  exact He.glo_ok X G c
theorem Txt.fr (T : Txt K mg) {x : Str} (c : (He.Fa.free x).ok K = true) : mg x = none := by
  obtain ⟨h, X, G⟩ := T.h
  exact He.free_ok X G c
theorem Txt.it (T : Txt K mg) {x : Str} {i : Int} (c : (He.Fa.int x i).ok K = true) : ∃ t, mg x = some (.int i t) := by
  obtain ⟨h, X, G⟩ := T.h
  exact He.int_ok X G c
theorem Txt.st (T : Txt K mg) {x z : Str} (c : (He.Fa.str x z).ok K = true) : ∃ t, mg x = some (.str z t) := by
  obtain ⟨h, X, G⟩ := T.h
  exact He.str_ok X G c
theorem gl_size_of (T : Txt K mg) : mg "size_of" = some (.ref (He.ga K "size_of")) := T.gl (T.c.d.fact 0 rfl)
theorem gl_is_within (T : Txt K mg) : mg "is_within" = some (.ref (He.ga K "is_within")) := T.gl (T.c.d.fact 1 rfl)
theorem gl_least_bit (T : Txt K mg) : mg "least_bit" = some (.ref (He.ga K "least_bit")) := T.gl (T.c.d.fact 2 rfl)
theorem gl_last_bits (T : Txt K mg) : mg "last_bits" = some (.ref (He.ga K "last_bits")) := T.gl (T.c.d.fact 3 rfl)
theorem gl_read_costs (T : Txt K mg) : mg "read_costs" = some (.ref (He.ga K "read_costs")) := T.gl (T.c.d.fact 4 rfl)
theorem gl_sums_by (T : Txt K mg) : mg "sums_by" = some (.ref (He.ga K "sums_by")) := T.gl (T.c.d.fact 5 rfl)
theorem gl_prepare (T : Txt K mg) : mg "prepare" = some (.ref (He.ga K "prepare")) := T.gl (T.c.d.fact 6 rfl)
theorem gl_changes_cost (T : Txt K mg) : mg "changes_cost" = some (.ref (He.ga K "changes_cost")) := T.gl (T.c.d.fact 7 rfl)
theorem gl_cost_of (T : Txt K mg) : mg "cost_of" = some (.ref (He.ga K "cost_of")) := T.gl (T.c.d.fact 8 rfl)
theorem gl_members (T : Txt K mg) : mg "members" = some (.ref (He.ga K "members")) := T.gl (T.c.d.fact 9 rfl)
theorem gl_best_of (T : Txt K mg) : mg "best_of" = some (.ref (He.ga K "best_of")) := T.gl (T.c.d.fact 10 rfl)
theorem gl_next_step (T : Txt K mg) : mg "next_step" = some (.ref (He.ga K "next_step")) := T.gl (T.c.d.fact 11 rfl)
theorem gl_step_by_step (T : Txt K mg) : mg "step_by_step" = some (.ref (He.ga K "step_by_step")) := T.gl (T.c.d.fact 12 rfl)
theorem gl_set_of (T : Txt K mg) : mg "set_of" = some (.ref (He.ga K "set_of")) := T.gl (T.c.d.fact 13 rfl)
theorem gl_read_by (T : Txt K mg) : mg "read_by" = some (.ref (He.ga K "read_by")) := T.gl (T.c.d.fact 14 rfl)
theorem gl_readers_of (T : Txt K mg) : mg "readers_of" = some (.ref (He.ga K "readers_of")) := T.gl (T.c.d.fact 15 rfl)
theorem gl_rooms_that_bring (T : Txt K mg) : mg "rooms_that_bring" = some (.ref (He.ga K "rooms_that_bring")) := T.gl (T.c.d.fact 16 rfl)
theorem gl_spelled (T : Txt K mg) : mg "spelled" = some (.ref (He.ga K "spelled")) := T.gl (T.c.d.fact 17 rfl)
theorem gl_is_letter (T : Txt K mg) : mg "is_letter" = some (.ref (He.ga K "is_letter")) := T.gl (T.c.d.fact 18 rfl)
theorem gl_is_digit (T : Txt K mg) : mg "is_digit" = some (.ref (He.ga K "is_digit")) := T.gl (T.c.d.fact 19 rfl)
theorem gl_behind_remark (T : Txt K mg) : mg "behind_remark" = some (.ref (He.ga K "behind_remark")) := T.gl (T.c.d.fact 20 rfl)
theorem gl_behind_run (T : Txt K mg) : mg "behind_run" = some (.ref (He.ga K "behind_run")) := T.gl (T.c.d.fact 21 rfl)
theorem gl_word_token (T : Txt K mg) : mg "word_token" = some (.ref (He.ga K "word_token")) := T.gl (T.c.d.fact 22 rfl)
theorem gl_number_token (T : Txt K mg) : mg "number_token" = some (.ref (He.ga K "number_token")) := T.gl (T.c.d.fact 23 rfl)
theorem gl_sign_token (T : Txt K mg) : mg "sign_token" = some (.ref (He.ga K "sign_token")) := T.gl (T.c.d.fact 24 rfl)
theorem gl_token_at (T : Txt K mg) : mg "token_at" = some (.ref (He.ga K "token_at")) := T.gl (T.c.d.fact 25 rfl)
theorem gl_tokens_of (T : Txt K mg) : mg "tokens_of" = some (.ref (He.ga K "tokens_of")) := T.gl (T.c.d.fact 26 rfl)
theorem gl_place_at (T : Txt K mg) : mg "place_at" = some (.ref (He.ga K "place_at")) := T.gl (T.c.d.fact 27 rfl)
theorem gl_fault_if (T : Txt K mg) : mg "fault_if" = some (.ref (He.ga K "fault_if")) := T.gl (T.c.d.fact 28 rfl)
theorem gl_is_form (T : Txt K mg) : mg "is_form" = some (.ref (He.ga K "is_form")) := T.gl (T.c.d.fact 29 rfl)
theorem gl_is_at (T : Txt K mg) : mg "is_at" = some (.ref (He.ga K "is_at")) := T.gl (T.c.d.fact 30 rfl)
theorem gl_take (T : Txt K mg) : mg "take" = some (.ref (He.ga K "take")) := T.gl (T.c.d.fact 31 rfl)
theorem gl_told_next (T : Txt K mg) : mg "told_next" = some (.ref (He.ga K "told_next")) := T.gl (T.c.d.fact 32 rfl)
theorem gl_comes (T : Txt K mg) : mg "comes" = some (.ref (He.ga K "comes")) := T.gl (T.c.d.fact 33 rfl)
theorem gl_want (T : Txt K mg) : mg "want" = some (.ref (He.ga K "want")) := T.gl (T.c.d.fact 34 rfl)
theorem gl_read_column (T : Txt K mg) : mg "read_column" = some (.ref (He.ga K "read_column")) := T.gl (T.c.d.fact 35 rfl)
theorem gl_read_columns (T : Txt K mg) : mg "read_columns" = some (.ref (He.ga K "read_columns")) := T.gl (T.c.d.fact 36 rfl)
theorem gl_read_number (T : Txt K mg) : mg "read_number" = some (.ref (He.ga K "read_number")) := T.gl (T.c.d.fact 37 rfl)
theorem gl_read_row (T : Txt K mg) : mg "read_row" = some (.ref (He.ga K "read_row")) := T.gl (T.c.d.fact 38 rfl)
theorem gl_read_asked (T : Txt K mg) : mg "read_asked" = some (.ref (He.ga K "read_asked")) := T.gl (T.c.d.fact 39 rfl)
theorem gl_read_question (T : Txt K mg) : mg "read_question" = some (.ref (He.ga K "read_question")) := T.gl (T.c.d.fact 40 rfl)
theorem gl_read_line (T : Txt K mg) : mg "read_line" = some (.ref (He.ga K "read_line")) := T.gl (T.c.d.fact 41 rfl)
theorem gl_read_table (T : Txt K mg) : mg "read_table" = some (.ref (He.ga K "read_table")) := T.gl (T.c.d.fact 42 rfl)
theorem gl_with_commas (T : Txt K mg) : mg "with_commas" = some (.ref (He.ga K "with_commas")) := T.gl (T.c.d.fact 43 rfl)
theorem gl_names_in (T : Txt K mg) : mg "names_in" = some (.ref (He.ga K "names_in")) := T.gl (T.c.d.fact 44 rfl)
theorem gl_shown_question (T : Txt K mg) : mg "shown_question" = some (.ref (He.ga K "shown_question")) := T.gl (T.c.d.fact 45 rfl)
theorem gl_shown_table (T : Txt K mg) : mg "shown_table" = some (.ref (He.ga K "shown_table")) := T.gl (T.c.d.fact 46 rfl)
theorem gl_refuse_if (T : Txt K mg) : mg "refuse_if" = some (.ref (He.ga K "refuse_if")) := T.gl (T.c.d.fact 47 rfl)
theorem gl_listed (T : Txt K mg) : mg "listed" = some (.ref (He.ga K "listed")) := T.gl (T.c.d.fact 48 rfl)
theorem gl_load (T : Txt K mg) : mg "load" = some (.ref (He.ga K "load")) := T.gl (T.c.d.fact 49 rfl)
theorem gl_terms (T : Txt K mg) : mg "terms" = some (.ref (He.ga K "terms")) := T.gl (T.c.d.fact 50 rfl)
theorem gl_best_set (T : Txt K mg) : mg "best_set" = some (.ref (He.ga K "best_set")) := T.gl (T.c.d.fact 51 rfl)
theorem gl_best (T : Txt K mg) : mg "best" = some (.ref (He.ga K "best")) := T.gl (T.c.d.fact 52 rfl)
theorem gl_steps (T : Txt K mg) : mg "steps" = some (.ref (He.ga K "steps")) := T.gl (T.c.d.fact 53 rfl)
theorem gl_few (T : Txt K mg) : mg "few" = some (.ref (He.ga K "few")) := T.gl (T.c.d.fact 54 rfl)
theorem gl_check_grouping (T : Txt K mg) : mg "check_grouping" = some (.ref (He.ga K "check_grouping")) := T.gl (T.c.d.fact 55 rfl)
theorem gl_price (T : Txt K mg) : mg "price" = some (.ref (He.ga K "price")) := T.gl (T.c.d.fact 56 rfl)
theorem gl_why (T : Txt K mg) : mg "why" = some (.ref (He.ga K "why")) := T.gl (T.c.d.fact 57 rfl)
theorem gl_curve (T : Txt K mg) : mg "curve" = some (.ref (He.ga K "curve")) := T.gl (T.c.d.fact 58 rfl)
theorem gl_call_on (T : Txt K mg) : mg "call_on" = some (.ref (He.ga K "call_on")) := T.gl (T.c.d.fact 59 rfl)
theorem gl_answer_to (T : Txt K mg) : mg "answer_to" = some (.ref (He.ga K "answer_to")) := T.gl (T.c.d.fact 60 rfl)
theorem gl_answers (T : Txt K mg) : mg "answers" = some (.ref (He.ga K "answers")) := T.gl (T.c.d.fact 61 rfl)
theorem gl_Held (T : Txt K mg) : mg "Held" = some (.ref (He.ga K "Held")) := T.gl (T.c.d.fact 62 rfl)
theorem gl_Fault (T : Txt K mg) : mg "Fault" = some (.ref (He.ga K "Fault")) := T.gl (T.c.d.fact 63 rfl)
theorem gl_Token (T : Txt K mg) : mg "Token" = some (.ref (He.ga K "Token")) := T.gl (T.c.d.fact 64 rfl)
theorem gl_Row (T : Txt K mg) : mg "Row" = some (.ref (He.ga K "Row")) := T.gl (T.c.d.fact 65 rfl)
theorem gl_Question (T : Txt K mg) : mg "Question" = some (.ref (He.ga K "Question")) := T.gl (T.c.d.fact 66 rfl)
theorem gl_Table (T : Txt K mg) : mg "Table" = some (.ref (He.ga K "Table")) := T.gl (T.c.d.fact 67 rfl)
theorem gl_Reader (T : Txt K mg) : mg "Reader" = some (.ref (He.ga K "Reader")) := T.gl (T.c.d.fact 68 rfl)
theorem gl_Refusal (T : Txt K mg) : mg "Refusal" = some (.ref (He.ga K "Refusal")) := T.gl (T.c.d.fact 69 rfl)
theorem gl_Desk (T : Txt K mg) : mg "Desk" = some (.ref (He.ga K "Desk")) := T.gl (T.c.d.fact 70 rfl)
theorem gl_BLANKS (T : Txt K mg) : mg "BLANKS" = some (.ref (He.ga K "BLANKS")) := T.gl (T.c.d.fact 71 rfl)
theorem gl_WORDS (T : Txt K mg) : mg "WORDS" = some (.ref (He.ga K "WORDS")) := T.gl (T.c.d.fact 72 rfl)
theorem gl_NUMBERS (T : Txt K mg) : mg "NUMBERS" = some (.ref (He.ga K "NUMBERS")) := T.gl (T.c.d.fact 73 rfl)
theorem gl_WITH_LIST (T : Txt K mg) : mg "WITH_LIST" = some (.ref (He.ga K "WITH_LIST")) := T.gl (T.c.d.fact 74 rfl)
theorem fr_ValueError (T : Txt K mg) : mg "ValueError" = none := T.fr (T.c.d.fact 75 rfl)
theorem fr_enumerate (T : Txt K mg) : mg "enumerate" = none := T.fr (T.c.d.fact 76 rfl)
theorem fr_int (T : Txt K mg) : mg "int" = none := T.fr (T.c.d.fact 77 rfl)
theorem fr_len (T : Txt K mg) : mg "len" = none := T.fr (T.c.d.fact 78 rfl)
theorem fr_list (T : Txt K mg) : mg "list" = none := T.fr (T.c.d.fact 79 rfl)
theorem fr_ord (T : Txt K mg) : mg "ord" = none := T.fr (T.c.d.fact 80 rfl)
theorem fr_range (T : Txt K mg) : mg "range" = none := T.fr (T.c.d.fact 81 rfl)
theorem fr_set (T : Txt K mg) : mg "set" = none := T.fr (T.c.d.fact 82 rfl)
theorem fr_sorted (T : Txt K mg) : mg "sorted" = none := T.fr (T.c.d.fact 83 rfl)
theorem fr_str (T : Txt K mg) : mg "str" = none := T.fr (T.c.d.fact 84 rfl)
theorem fr_sum (T : Txt K mg) : mg "sum" = none := T.fr (T.c.d.fact 85 rfl)
theorem fr_tuple (T : Txt K mg) : mg "tuple" = none := T.fr (T.c.d.fact 86 rfl)
theorem fr_zip (T : Txt K mg) : mg "zip" = none := T.fr (T.c.d.fact 87 rfl)
theorem in_READ_AND_WRITTEN (T : Txt K mg) : ∃ t, mg "READ_AND_WRITTEN" = some (.int (2) t) := T.it (T.c.d.fact 88 rfl)
theorem in_FIRST_ROOM (T : Txt K mg) : ∃ t, mg "FIRST_ROOM" = some (.int (1000000) t) := T.it (T.c.d.fact 89 rfl)
theorem in_REMARK (T : Txt K mg) : ∃ t, mg "REMARK" = some (.int (35) t) := T.it (T.c.d.fact 90 rfl)
theorem in_LINE_END (T : Txt K mg) : ∃ t, mg "LINE_END" = some (.int (10) t) := T.it (T.c.d.fact 91 rfl)
theorem in_MOST_NAME (T : Txt K mg) : ∃ t, mg "MOST_NAME" = some (.int (16) t) := T.it (T.c.d.fact 92 rfl)
theorem in_MOST_NUMBER (T : Txt K mg) : ∃ t, mg "MOST_NUMBER" = some (.int (1000000000) t) := T.it (T.c.d.fact 93 rfl)
theorem in_NO_TOKEN (T : Txt K mg) : ∃ t, mg "NO_TOKEN" = some (.int (2) t) := T.it (T.c.d.fact 94 rfl)
theorem in_MOST_TEXT (T : Txt K mg) : ∃ t, mg "MOST_TEXT" = some (.int (4096) t) := T.it (T.c.d.fact 95 rfl)
theorem in_TOO_LONG (T : Txt K mg) : ∃ t, mg "TOO_LONG" = some (.int (1) t) := T.it (T.c.d.fact 96 rfl)
theorem in_NOT_ALLOWED (T : Txt K mg) : ∃ t, mg "NOT_ALLOWED" = some (.int (3) t) := T.it (T.c.d.fact 97 rfl)
theorem in_TOO_MANY (T : Txt K mg) : ∃ t, mg "TOO_MANY" = some (.int (4) t) := T.it (T.c.d.fact 98 rfl)
theorem in_TOLD (T : Txt K mg) : ∃ t, mg "TOLD" = some (.int (5) t) := T.it (T.c.d.fact 99 rfl)
theorem in_TWICE (T : Txt K mg) : ∃ t, mg "TWICE" = some (.int (6) t) := T.it (T.c.d.fact 100 rfl)
theorem in_TOO_GREAT (T : Txt K mg) : ∃ t, mg "TOO_GREAT" = some (.int (7) t) := T.it (T.c.d.fact 101 rfl)
theorem in_NO_COLUMN (T : Txt K mg) : ∃ t, mg "NO_COLUMN" = some (.int (8) t) := T.it (T.c.d.fact 102 rfl)
theorem in_MOST_COLUMNS (T : Txt K mg) : ∃ t, mg "MOST_COLUMNS" = some (.int (4) t) := T.it (T.c.d.fact 103 rfl)
theorem in_MOST_ROWS (T : Txt K mg) : ∃ t, mg "MOST_ROWS" = some (.int (16) t) := T.it (T.c.d.fact 104 rfl)
theorem in_MOST_QUESTIONS (T : Txt K mg) : ∃ t, mg "MOST_QUESTIONS" = some (.int (8) t) := T.it (T.c.d.fact 105 rfl)
theorem in_MOST_VALUE (T : Txt K mg) : ∃ t, mg "MOST_VALUE" = some (.int (9) t) := T.it (T.c.d.fact 106 rfl)
theorem in_MOST_SUM (T : Txt K mg) : ∃ t, mg "MOST_SUM" = some (.int (1000) t) := T.it (T.c.d.fact 107 rfl)
theorem in_MOST_TIMES (T : Txt K mg) : ∃ t, mg "MOST_TIMES" = some (.int (99) t) := T.it (T.c.d.fact 108 rfl)
theorem in_NO_TABLE (T : Txt K mg) : ∃ t, mg "NO_TABLE" = some (.int (-1) t) := T.it (T.c.d.fact 109 rfl)
theorem in_NO_SUCH (T : Txt K mg) : ∃ t, mg "NO_SUCH" = some (.int (-2) t) := T.it (T.c.d.fact 110 rfl)
theorem in_OUT (T : Txt K mg) : ∃ t, mg "OUT" = some (.int (-3) t) := T.it (T.c.d.fact 111 rfl)
theorem in_OUT_CHANGES (T : Txt K mg) : ∃ t, mg "OUT_CHANGES" = some (.int (-4) t) := T.it (T.c.d.fact 112 rfl)
theorem in_MOST_CHANGES (T : Txt K mg) : ∃ t, mg "MOST_CHANGES" = some (.int (1000) t) := T.it (T.c.d.fact 113 rfl)
theorem in_MOST_FEW (T : Txt K mg) : ∃ t, mg "MOST_FEW" = some (.int (4) t) := T.it (T.c.d.fact 114 rfl)
theorem st_SIGNS (T : Txt K mg) : ∃ t, mg "SIGNS" = some (.str ",:;-" t) := T.st (T.c.d.fact 115 rfl)
theorem st_NAME (T : Txt K mg) : ∃ t, mg "NAME" = some (.str "name" t) := T.st (T.c.d.fact 116 rfl)
theorem st_WORD (T : Txt K mg) : ∃ t, mg "WORD" = some (.str "word" t) := T.st (T.c.d.fact 117 rfl)
theorem st_NUMBER (T : Txt K mg) : ∃ t, mg "NUMBER" = some (.str "number" t) := T.st (T.c.d.fact 118 rfl)
theorem st_SIGN (T : Txt K mg) : ∃ t, mg "SIGN" = some (.str "sign" t) := T.st (T.c.d.fact 119 rfl)
theorem cl_Held (T : Txt K mg) : Cls K (He.ga K "Held") := He.cls_ok (T.c.d.fact 120 rfl)
theorem mk_Held (T : Txt K mg) : Mk K (He.ga K "Held") (He.ma K (He.ga K "Held") "__init__") := He.mkr_ok (T.c.d.fact 121 rfl)
theorem na_Held_table (T : Txt K mg) : NoAttr K (He.ga K "Held") "table" := He.noat_ok (T.c.d.fact 122 rfl)
theorem na_Held_room (T : Txt K mg) : NoAttr K (He.ga K "Held") "room" := He.noat_ok (T.c.d.fact 123 rfl)
theorem na_Held_changes (T : Txt K mg) : NoAttr K (He.ga K "Held") "changes" := He.noat_ok (T.c.d.fact 124 rfl)
theorem na_Held_sizes (T : Txt K mg) : NoAttr K (He.ga K "Held") "sizes" := He.noat_ok (T.c.d.fact 125 rfl)
theorem na_Held_asked (T : Txt K mg) : NoAttr K (He.ga K "Held") "asked" := He.noat_ok (T.c.d.fact 126 rfl)
theorem na_Held_lines (T : Txt K mg) : NoAttr K (He.ga K "Held") "lines" := He.noat_ok (T.c.d.fact 127 rfl)
theorem na_Held_counts (T : Txt K mg) : NoAttr K (He.ga K "Held") "counts" := He.noat_ok (T.c.d.fact 128 rfl)
theorem na_Fault_code (T : Txt K mg) : NoAttr K (He.ga K "Fault") "code" := He.noat_ok (T.c.d.fact 129 rfl)
theorem na_Fault_where (T : Txt K mg) : NoAttr K (He.ga K "Fault") "where" := He.noat_ok (T.c.d.fact 130 rfl)
theorem cl_Token (T : Txt K mg) : Cls K (He.ga K "Token") := He.cls_ok (T.c.d.fact 131 rfl)
theorem mk_Token (T : Txt K mg) : Mk K (He.ga K "Token") (He.ma K (He.ga K "Token") "__init__") := He.mkr_ok (T.c.d.fact 132 rfl)
theorem na_Token_begins (T : Txt K mg) : NoAttr K (He.ga K "Token") "begins" := He.noat_ok (T.c.d.fact 133 rfl)
theorem na_Token_ends (T : Txt K mg) : NoAttr K (He.ga K "Token") "ends" := He.noat_ok (T.c.d.fact 134 rfl)
theorem na_Token_form (T : Txt K mg) : NoAttr K (He.ga K "Token") "form" := He.noat_ok (T.c.d.fact 135 rfl)
theorem na_Token_told (T : Txt K mg) : NoAttr K (He.ga K "Token") "told" := He.noat_ok (T.c.d.fact 136 rfl)
theorem cl_Row (T : Txt K mg) : Cls K (He.ga K "Row") := He.cls_ok (T.c.d.fact 137 rfl)
theorem mk_Row (T : Txt K mg) : Mk K (He.ga K "Row") (He.ma K (He.ga K "Row") "__init__") := He.mkr_ok (T.c.d.fact 138 rfl)
theorem na_Row_cells (T : Txt K mg) : NoAttr K (He.ga K "Row") "cells" := He.noat_ok (T.c.d.fact 139 rfl)
theorem na_Row_told (T : Txt K mg) : NoAttr K (He.ga K "Row") "told" := He.noat_ok (T.c.d.fact 140 rfl)
theorem cl_Question (T : Txt K mg) : Cls K (He.ga K "Question") := He.cls_ok (T.c.d.fact 141 rfl)
theorem mk_Question (T : Txt K mg) : Mk K (He.ga K "Question") (He.ma K (He.ga K "Question") "__init__") := He.mkr_ok (T.c.d.fact 142 rfl)
theorem na_Question_grouping (T : Txt K mg) : NoAttr K (He.ga K "Question") "grouping" := He.noat_ok (T.c.d.fact 143 rfl)
theorem na_Question_times (T : Txt K mg) : NoAttr K (He.ga K "Question") "times" := He.noat_ok (T.c.d.fact 144 rfl)
theorem cl_Table (T : Txt K mg) : Cls K (He.ga K "Table") := He.cls_ok (T.c.d.fact 145 rfl)
theorem mk_Table (T : Txt K mg) : Mk K (He.ga K "Table") (He.ma K (He.ga K "Table") "__init__") := He.mkr_ok (T.c.d.fact 146 rfl)
theorem na_Table_columns (T : Txt K mg) : NoAttr K (He.ga K "Table") "columns" := He.noat_ok (T.c.d.fact 147 rfl)
theorem na_Table_rows (T : Txt K mg) : NoAttr K (He.ga K "Table") "rows" := He.noat_ok (T.c.d.fact 148 rfl)
theorem na_Table_questions (T : Txt K mg) : NoAttr K (He.ga K "Table") "questions" := He.noat_ok (T.c.d.fact 149 rfl)
theorem cl_Reader (T : Txt K mg) : Cls K (He.ga K "Reader") := He.cls_ok (T.c.d.fact 150 rfl)
theorem mk_Reader (T : Txt K mg) : Mk K (He.ga K "Reader") (He.ma K (He.ga K "Reader") "__init__") := He.mkr_ok (T.c.d.fact 151 rfl)
theorem na_Reader_tokens (T : Txt K mg) : NoAttr K (He.ga K "Reader") "tokens" := He.noat_ok (T.c.d.fact 152 rfl)
theorem na_Reader_length (T : Txt K mg) : NoAttr K (He.ga K "Reader") "length" := He.noat_ok (T.c.d.fact 153 rfl)
theorem na_Reader_at (T : Txt K mg) : NoAttr K (He.ga K "Reader") "at" := He.noat_ok (T.c.d.fact 154 rfl)
theorem na_Refusal_number (T : Txt K mg) : NoAttr K (He.ga K "Refusal") "number" := He.noat_ok (T.c.d.fact 155 rfl)
theorem cl_Desk (T : Txt K mg) : Cls K (He.ga K "Desk") := He.cls_ok (T.c.d.fact 156 rfl)
theorem mk_Desk (T : Txt K mg) : Mk K (He.ga K "Desk") (He.ma K (He.ga K "Desk") "__init__") := He.mkr_ok (T.c.d.fact 157 rfl)
theorem na_Desk_held (T : Txt K mg) : NoAttr K (He.ga K "Desk") "held" := He.noat_ok (T.c.d.fact 158 rfl)
theorem ex_Fault (T : Txt K mg) : ExcT K "Fault" := excB_ok (He.ba T.c.m).1
theorem ex_Refusal (T : Txt K mg) : ExcT K "Refusal" := excB_ok (He.ba (He.ba T.c.m).2).1
theorem tu_BLANKS (T : Txt K mg) (H : Hp) : SqT K H (He.ga K "BLANKS") [V.int 32, V.int 9, V.int 10] := He.tupB_ok (x := "BLANKS") (vs := [.int 32, .int 9, .int 10]) (He.ba (He.ba (He.ba T.c.m).2).2).1 H
theorem tu_WORDS (T : Txt K mg) (H : Hp) : SqT K H (He.ga K "WORDS") [V.str "columns", V.str "row", V.str "ask", V.str "times"] := He.tupB_ok (x := "WORDS") (vs := [.str "columns", .str "row", .str "ask", .str "times"]) (He.ba (He.ba (He.ba (He.ba T.c.m).2).2).2).1 H
theorem tu_NUMBERS (T : Txt K mg) (H : Hp) : SqT K H (He.ga K "NUMBERS") [V.int 0, V.int 0, V.int 2, V.int 0, V.int 0, V.int 1, V.int 0, V.int 1, V.int 0] := He.tupB_ok (x := "NUMBERS") (vs := [.int 0, .int 0, .int 2, .int 0, .int 0, .int 1, .int 0, .int 1, .int 0]) (He.ba (He.ba (He.ba (He.ba (He.ba T.c.m).2).2).2).2).1 H
theorem tu_WITH_LIST (T : Txt K mg) (H : Hp) : SqT K H (He.ga K "WITH_LIST") [V.int 0, V.int 6] := He.tupB_ok (x := "WITH_LIST") (vs := [.int 0, .int 6]) (He.ba (He.ba (He.ba (He.ba (He.ba T.c.m).2).2).2).2).2 H
theorem fd_size_of (T : Txt K mg) : ∃ fd, FunD K "size_of" "size_of" (defArgs (top 4)) (defBody (top 4)) (defScope (top 4)) [] [] (He.ga K "size_of") fd := T.c.d.def_ 0 (d := d_size_of) rfl
theorem fd_is_within (T : Txt K mg) : ∃ fd, FunD K "is_within" "is_within" (defArgs (top 5)) (defBody (top 5)) (defScope (top 5)) [] [] (He.ga K "is_within") fd := T.c.d.def_ 1 (d := d_is_within) rfl
theorem fd_least_bit (T : Txt K mg) : ∃ fd, FunD K "least_bit" "least_bit" (defArgs (top 6)) (defBody (top 6)) (defScope (top 6)) [] [] (He.ga K "least_bit") fd := T.c.d.def_ 2 (d := d_least_bit) rfl
theorem fd_last_bits (T : Txt K mg) : ∃ fd, FunD K "last_bits" "last_bits" (defArgs (top 7)) (defBody (top 7)) (defScope (top 7)) [] [] (He.ga K "last_bits") fd := T.c.d.def_ 3 (d := d_last_bits) rfl
theorem fd_read_costs (T : Txt K mg) : ∃ fd, FunD K "read_costs" "read_costs" (defArgs (top 8)) (defBody (top 8)) (defScope (top 8)) [] [] (He.ga K "read_costs") fd := T.c.d.def_ 4 (d := d_read_costs) rfl
theorem fd_sums_by (T : Txt K mg) : ∃ fd, FunD K "sums_by" "sums_by" (defArgs (top 9)) (defBody (top 9)) (defScope (top 9)) [] [] (He.ga K "sums_by") fd := T.c.d.def_ 5 (d := d_sums_by) rfl
theorem fd_prepare (T : Txt K mg) : ∃ fd, FunD K "prepare" "prepare" (defArgs (top 10)) (defBody (top 10)) (defScope (top 10)) [] [] (He.ga K "prepare") fd := T.c.d.def_ 6 (d := d_prepare) rfl
theorem fd_changes_cost (T : Txt K mg) : ∃ fd, FunD K "changes_cost" "changes_cost" (defArgs (top 11)) (defBody (top 11)) (defScope (top 11)) [] [] (He.ga K "changes_cost") fd := T.c.d.def_ 7 (d := d_changes_cost) rfl
theorem fd_cost_of (T : Txt K mg) : ∃ fd, FunD K "cost_of" "cost_of" (defArgs (top 12)) (defBody (top 12)) (defScope (top 12)) [] [] (He.ga K "cost_of") fd := T.c.d.def_ 8 (d := d_cost_of) rfl
theorem fd_members (T : Txt K mg) : ∃ fd, FunD K "members" "members" (defArgs (top 13)) (defBody (top 13)) (defScope (top 13)) [] [] (He.ga K "members") fd := T.c.d.def_ 9 (d := d_members) rfl
theorem fd_best_of (T : Txt K mg) : ∃ fd, FunD K "best_of" "best_of" (defArgs (top 14)) (defBody (top 14)) (defScope (top 14)) [] [] (He.ga K "best_of") fd := T.c.d.def_ 10 (d := d_best_of) rfl
theorem fd_next_step (T : Txt K mg) : ∃ fd, FunD K "next_step" "next_step" (defArgs (top 15)) (defBody (top 15)) (defScope (top 15)) [] [] (He.ga K "next_step") fd := T.c.d.def_ 11 (d := d_next_step) rfl
theorem fd_step_by_step (T : Txt K mg) : ∃ fd, FunD K "step_by_step" "step_by_step" (defArgs (top 16)) (defBody (top 16)) (defScope (top 16)) [] [] (He.ga K "step_by_step") fd := T.c.d.def_ 12 (d := d_step_by_step) rfl
theorem fd_set_of (T : Txt K mg) : ∃ fd, FunD K "set_of" "set_of" (defArgs (top 17)) (defBody (top 17)) (defScope (top 17)) [] [] (He.ga K "set_of") fd := T.c.d.def_ 13 (d := d_set_of) rfl
theorem fd_read_by (T : Txt K mg) : ∃ fd, FunD K "read_by" "read_by" (defArgs (top 18)) (defBody (top 18)) (defScope (top 18)) [] [] (He.ga K "read_by") fd := T.c.d.def_ 14 (d := d_read_by) rfl
theorem fd_readers_of (T : Txt K mg) : ∃ fd, FunD K "readers_of" "readers_of" (defArgs (top 19)) (defBody (top 19)) (defScope (top 19)) [] [] (He.ga K "readers_of") fd := T.c.d.def_ 15 (d := d_readers_of) rfl
theorem fd_rooms_that_bring (T : Txt K mg) : ∃ fd, FunD K "rooms_that_bring" "rooms_that_bring" (defArgs (top 20)) (defBody (top 20)) (defScope (top 20)) [] [] (He.ga K "rooms_that_bring") fd := T.c.d.def_ 16 (d := d_rooms_that_bring) rfl
theorem fd_spelled (T : Txt K mg) : ∃ fd, FunD K "spelled" "spelled" (defArgs (top 36)) (defBody (top 36)) (defScope (top 36)) [] [] (He.ga K "spelled") fd := T.c.d.def_ 17 (d := d_spelled) rfl
theorem fd_is_letter (T : Txt K mg) : ∃ fd, FunD K "is_letter" "is_letter" (defArgs (top 37)) (defBody (top 37)) (defScope (top 37)) [] [] (He.ga K "is_letter") fd := T.c.d.def_ 18 (d := d_is_letter) rfl
theorem fd_is_digit (T : Txt K mg) : ∃ fd, FunD K "is_digit" "is_digit" (defArgs (top 38)) (defBody (top 38)) (defScope (top 38)) [] [] (He.ga K "is_digit") fd := T.c.d.def_ 19 (d := d_is_digit) rfl
theorem fd_behind_remark (T : Txt K mg) : ∃ fd, FunD K "behind_remark" "behind_remark" (defArgs (top 39)) (defBody (top 39)) (defScope (top 39)) [] [] (He.ga K "behind_remark") fd := T.c.d.def_ 20 (d := d_behind_remark) rfl
theorem fd_behind_run (T : Txt K mg) : ∃ fd, FunD K "behind_run" "behind_run" (defArgs (top 40)) (defBody (top 40)) (defScope (top 40)) [] [] (He.ga K "behind_run") fd := T.c.d.def_ 21 (d := d_behind_run) rfl
theorem fd_word_token (T : Txt K mg) : ∃ fd, FunD K "word_token" "word_token" (defArgs (top 41)) (defBody (top 41)) (defScope (top 41)) [] [] (He.ga K "word_token") fd := T.c.d.def_ 22 (d := d_word_token) rfl
theorem fd_number_token (T : Txt K mg) : ∃ fd, FunD K "number_token" "number_token" (defArgs (top 42)) (defBody (top 42)) (defScope (top 42)) [] [] (He.ga K "number_token") fd := T.c.d.def_ 23 (d := d_number_token) rfl
theorem fd_sign_token (T : Txt K mg) : ∃ fd, FunD K "sign_token" "sign_token" (defArgs (top 43)) (defBody (top 43)) (defScope (top 43)) [] [] (He.ga K "sign_token") fd := T.c.d.def_ 24 (d := d_sign_token) rfl
theorem fd_token_at (T : Txt K mg) : ∃ fd, FunD K "token_at" "token_at" (defArgs (top 44)) (defBody (top 44)) (defScope (top 44)) [] [] (He.ga K "token_at") fd := T.c.d.def_ 25 (d := d_token_at) rfl
theorem fd_tokens_of (T : Txt K mg) : ∃ fd, FunD K "tokens_of" "tokens_of" (defArgs (top 45)) (defBody (top 45)) (defScope (top 45)) [] [] (He.ga K "tokens_of") fd := T.c.d.def_ 26 (d := d_tokens_of) rfl
theorem fd_place_at (T : Txt K mg) : ∃ fd, FunD K "place_at" "place_at" (defArgs (top 65)) (defBody (top 65)) (defScope (top 65)) [] [] (He.ga K "place_at") fd := T.c.d.def_ 27 (d := d_place_at) rfl
theorem fd_fault_if (T : Txt K mg) : ∃ fd, FunD K "fault_if" "fault_if" (defArgs (top 66)) (defBody (top 66)) (defScope (top 66)) [] [] (He.ga K "fault_if") fd := T.c.d.def_ 28 (d := d_fault_if) rfl
theorem fd_is_form (T : Txt K mg) : ∃ fd, FunD K "is_form" "is_form" (defArgs (top 67)) (defBody (top 67)) (defScope (top 67)) [] [] (He.ga K "is_form") fd := T.c.d.def_ 29 (d := d_is_form) rfl
theorem fd_is_at (T : Txt K mg) : ∃ fd, FunD K "is_at" "is_at" (defArgs (top 68)) (defBody (top 68)) (defScope (top 68)) [] [] (He.ga K "is_at") fd := T.c.d.def_ 30 (d := d_is_at) rfl
theorem fd_take (T : Txt K mg) : ∃ fd, FunD K "take" "take" (defArgs (top 69)) (defBody (top 69)) (defScope (top 69)) [] [] (He.ga K "take") fd := T.c.d.def_ 31 (d := d_take) rfl
theorem fd_told_next (T : Txt K mg) : ∃ fd, FunD K "told_next" "told_next" (defArgs (top 70)) (defBody (top 70)) (defScope (top 70)) [] [] (He.ga K "told_next") fd := T.c.d.def_ 32 (d := d_told_next) rfl
theorem fd_comes (T : Txt K mg) : ∃ fd, FunD K "comes" "comes" (defArgs (top 71)) (defBody (top 71)) (defScope (top 71)) [] [] (He.ga K "comes") fd := T.c.d.def_ 33 (d := d_comes) rfl
theorem fd_want (T : Txt K mg) : ∃ fd, FunD K "want" "want" (defArgs (top 72)) (defBody (top 72)) (defScope (top 72)) [] [] (He.ga K "want") fd := T.c.d.def_ 34 (d := d_want) rfl
theorem fd_read_column (T : Txt K mg) : ∃ fd, FunD K "read_column" "read_column" (defArgs (top 73)) (defBody (top 73)) (defScope (top 73)) [] [] (He.ga K "read_column") fd := T.c.d.def_ 35 (d := d_read_column) rfl
theorem fd_read_columns (T : Txt K mg) : ∃ fd, FunD K "read_columns" "read_columns" (defArgs (top 74)) (defBody (top 74)) (defScope (top 74)) [] [] (He.ga K "read_columns") fd := T.c.d.def_ 36 (d := d_read_columns) rfl
theorem fd_read_number (T : Txt K mg) : ∃ fd, FunD K "read_number" "read_number" (defArgs (top 75)) (defBody (top 75)) (defScope (top 75)) [] [] (He.ga K "read_number") fd := T.c.d.def_ 37 (d := d_read_number) rfl
theorem fd_read_row (T : Txt K mg) : ∃ fd, FunD K "read_row" "read_row" (defArgs (top 76)) (defBody (top 76)) (defScope (top 76)) [] [] (He.ga K "read_row") fd := T.c.d.def_ 38 (d := d_read_row) rfl
theorem fd_read_asked (T : Txt K mg) : ∃ fd, FunD K "read_asked" "read_asked" (defArgs (top 77)) (defBody (top 77)) (defScope (top 77)) [] [] (He.ga K "read_asked") fd := T.c.d.def_ 39 (d := d_read_asked) rfl
theorem fd_read_question (T : Txt K mg) : ∃ fd, FunD K "read_question" "read_question" (defArgs (top 78)) (defBody (top 78)) (defScope (top 78)) [] [] (He.ga K "read_question") fd := T.c.d.def_ 40 (d := d_read_question) rfl
theorem fd_read_line (T : Txt K mg) : ∃ fd, FunD K "read_line" "read_line" (defArgs (top 79)) (defBody (top 79)) (defScope (top 79)) [] [] (He.ga K "read_line") fd := T.c.d.def_ 41 (d := d_read_line) rfl
theorem fd_read_table (T : Txt K mg) : ∃ fd, FunD K "read_table" "read_table" (defArgs (top 80)) (defBody (top 80)) (defScope (top 80)) [] [] (He.ga K "read_table") fd := T.c.d.def_ 42 (d := d_read_table) rfl
theorem fd_with_commas (T : Txt K mg) : ∃ fd, FunD K "with_commas" "with_commas" (defArgs (top 81)) (defBody (top 81)) (defScope (top 81)) [] [] (He.ga K "with_commas") fd := T.c.d.def_ 43 (d := d_with_commas) rfl
theorem fd_names_in (T : Txt K mg) : ∃ fd, FunD K "names_in" "names_in" (defArgs (top 82)) (defBody (top 82)) (defScope (top 82)) [] [] (He.ga K "names_in") fd := T.c.d.def_ 44 (d := d_names_in) rfl
theorem fd_shown_question (T : Txt K mg) : ∃ fd, FunD K "shown_question" "shown_question" (defArgs (top 83)) (defBody (top 83)) (defScope (top 83)) [] [] (He.ga K "shown_question") fd := T.c.d.def_ 45 (d := d_shown_question) rfl
theorem fd_shown_table (T : Txt K mg) : ∃ fd, FunD K "shown_table" "shown_table" (defArgs (top 84)) (defBody (top 84)) (defScope (top 84)) [] [] (He.ga K "shown_table") fd := T.c.d.def_ 46 (d := d_shown_table) rfl
theorem fd_refuse_if (T : Txt K mg) : ∃ fd, FunD K "refuse_if" "refuse_if" (defArgs (top 96)) (defBody (top 96)) (defScope (top 96)) [] [] (He.ga K "refuse_if") fd := T.c.d.def_ 47 (d := d_refuse_if) rfl
theorem fd_listed (T : Txt K mg) : ∃ fd, FunD K "listed" "listed" (defArgs (top 97)) (defBody (top 97)) (defScope (top 97)) [] [] (He.ga K "listed") fd := T.c.d.def_ 48 (d := d_listed) rfl
theorem fd_load (T : Txt K mg) : ∃ fd, FunD K "load" "load" (defArgs (top 98)) (defBody (top 98)) (defScope (top 98)) [] [] (He.ga K "load") fd := T.c.d.def_ 49 (d := d_load) rfl
theorem fd_terms (T : Txt K mg) : ∃ fd, FunD K "terms" "terms" (defArgs (top 99)) (defBody (top 99)) (defScope (top 99)) [] [] (He.ga K "terms") fd := T.c.d.def_ 50 (d := d_terms) rfl
theorem fd_best_set (T : Txt K mg) : ∃ fd, FunD K "best_set" "best_set" (defArgs (top 100)) (defBody (top 100)) (defScope (top 100)) [] [] (He.ga K "best_set") fd := T.c.d.def_ 51 (d := d_best_set) rfl
theorem fd_best (T : Txt K mg) : ∃ fd, FunD K "best" "best" (defArgs (top 101)) (defBody (top 101)) (defScope (top 101)) [] [] (He.ga K "best") fd := T.c.d.def_ 52 (d := d_best) rfl
theorem fd_steps (T : Txt K mg) : ∃ fd, FunD K "steps" "steps" (defArgs (top 102)) (defBody (top 102)) (defScope (top 102)) [] [] (He.ga K "steps") fd := T.c.d.def_ 53 (d := d_steps) rfl
theorem fd_few (T : Txt K mg) : ∃ fd, FunD K "few" "few" (defArgs (top 103)) (defBody (top 103)) (defScope (top 103)) [] [] (He.ga K "few") fd := T.c.d.def_ 54 (d := d_few) rfl
theorem fd_check_grouping (T : Txt K mg) : ∃ fd, FunD K "check_grouping" "check_grouping" (defArgs (top 104)) (defBody (top 104)) (defScope (top 104)) [] [] (He.ga K "check_grouping") fd := T.c.d.def_ 55 (d := d_check_grouping) rfl
theorem fd_price (T : Txt K mg) : ∃ fd, FunD K "price" "price" (defArgs (top 105)) (defBody (top 105)) (defScope (top 105)) [] [] (He.ga K "price") fd := T.c.d.def_ 56 (d := d_price) rfl
theorem fd_why (T : Txt K mg) : ∃ fd, FunD K "why" "why" (defArgs (top 106)) (defBody (top 106)) (defScope (top 106)) [] [] (He.ga K "why") fd := T.c.d.def_ 57 (d := d_why) rfl
theorem fd_curve (T : Txt K mg) : ∃ fd, FunD K "curve" "curve" (defArgs (top 107)) (defBody (top 107)) (defScope (top 107)) [] [] (He.ga K "curve") fd := T.c.d.def_ 58 (d := d_curve) rfl
theorem fd_call_on (T : Txt K mg) : ∃ fd, FunD K "call_on" "call_on" (defArgs (top 108)) (defBody (top 108)) (defScope (top 108)) [] [] (He.ga K "call_on") fd := T.c.d.def_ 59 (d := d_call_on) rfl
theorem fd_answer_to (T : Txt K mg) : ∃ fd, FunD K "answer_to" "answer_to" (defArgs (top 109)) (defBody (top 109)) (defScope (top 109)) [] [] (He.ga K "answer_to") fd := T.c.d.def_ 60 (d := d_answer_to) rfl
theorem fd_answers (T : Txt K mg) : ∃ fd, FunD K "answers" "answers" (defArgs (top 110)) (defBody (top 110)) (defScope (top 110)) [] [] (He.ga K "answers") fd := T.c.d.def_ 61 (d := d_answers) rfl
theorem fd_Held_init (T : Txt K mg) : ∃ fd, FunD K "__init__" "Held.__init__" (defArgs (inClass (top 3) 0)) (defBody (inClass (top 3) 0)) (defScope (inClass (top 3) 0)) [] [] (He.ma K (He.ga K "Held") "__init__") fd := T.c.d.def_ 62 (d := d_Held_init) rfl
theorem fd_Fault_init (T : Txt K mg) : ∃ fd, FunD K "__init__" "Fault.__init__" (defArgs (inClass (top 34) 0)) (defBody (inClass (top 34) 0)) (defScope (inClass (top 34) 0)) [] [] (He.ma K (He.ga K "Fault") "__init__") fd := T.c.d.def_ 63 (d := d_Fault_init) rfl
theorem fd_Token_init (T : Txt K mg) : ∃ fd, FunD K "__init__" "Token.__init__" (defArgs (inClass (top 35) 0)) (defBody (inClass (top 35) 0)) (defScope (inClass (top 35) 0)) [] [] (He.ma K (He.ga K "Token") "__init__") fd := T.c.d.def_ 64 (d := d_Token_init) rfl
theorem fd_Row_init (T : Txt K mg) : ∃ fd, FunD K "__init__" "Row.__init__" (defArgs (inClass (top 61) 0)) (defBody (inClass (top 61) 0)) (defScope (inClass (top 61) 0)) [] [] (He.ma K (He.ga K "Row") "__init__") fd := T.c.d.def_ 65 (d := d_Row_init) rfl
theorem fd_Question_init (T : Txt K mg) : ∃ fd, FunD K "__init__" "Question.__init__" (defArgs (inClass (top 62) 0)) (defBody (inClass (top 62) 0)) (defScope (inClass (top 62) 0)) [] [] (He.ma K (He.ga K "Question") "__init__") fd := T.c.d.def_ 66 (d := d_Question_init) rfl
theorem fd_Table_init (T : Txt K mg) : ∃ fd, FunD K "__init__" "Table.__init__" (defArgs (inClass (top 63) 0)) (defBody (inClass (top 63) 0)) (defScope (inClass (top 63) 0)) [] [] (He.ma K (He.ga K "Table") "__init__") fd := T.c.d.def_ 67 (d := d_Table_init) rfl
theorem fd_Reader_init (T : Txt K mg) : ∃ fd, FunD K "__init__" "Reader.__init__" (defArgs (inClass (top 64) 0)) (defBody (inClass (top 64) 0)) (defScope (inClass (top 64) 0)) [] [] (He.ma K (He.ga K "Reader") "__init__") fd := T.c.d.def_ 68 (d := d_Reader_init) rfl
theorem fd_Refusal_init (T : Txt K mg) : ∃ fd, FunD K "__init__" "Refusal.__init__" (defArgs (inClass (top 94) 0)) (defBody (inClass (top 94) 0)) (defScope (inClass (top 94) 0)) [] [] (He.ma K (He.ga K "Refusal") "__init__") fd := T.c.d.def_ 69 (d := d_Refusal_init) rfl
theorem fd_Desk_init (T : Txt K mg) : ∃ fd, FunD K "__init__" "Desk.__init__" (defArgs (inClass (top 95) 0)) (defBody (inClass (top 95) 0)) (defScope (inClass (top 95) 0)) [] [] (He.ma K (He.ga K "Desk") "__init__") fd := T.c.d.def_ 70 (d := d_Desk_init) rfl
end
end Bw
set_option Elab.async false
set_option linter.all false
set_option maxRecDepth 100000
set_option maxHeartbeats 4000000
namespace Bw
open PySem PySem.Spec PyProof.Rows L2
/-! ### names of the top -/
section
variable {X : Cx} {x z : Str} {i : Int} {a : Addr} {pos : Pos}
theorem pe_gi (h : ∃ t, X.mg x = some (.int i t)) (hg : Gl X x := by rfl) (hd : (x == ("__debug__" : Str)) = false := by decide) : PE X (.Name x pos) (tC (.int i)) := by
  obtain ⟨t, h⟩ := h
  exact pe_glob hg h ⟨t, rfl⟩ hd
theorem pe_gs (h : ∃ t, X.mg x = some (.str z t)) (hg : Gl X x := by rfl) (hd : (x == ("__debug__" : Str)) = false := by decide) : PE X (.Name x pos) (tC (.str z)) := by
  obtain ⟨t, h⟩ := h
  exact pe_glob hg h ⟨t, rfl⟩ hd
theorem pe_gr (h : X.mg x = some (.ref a)) (hg : Gl X x := by rfl) (hd : (x == ("__debug__" : Str)) = false := by decide) : PE X (.Name x pos) (tC (.ref a)) := pe_glob hg h rfl hd
end
theorem hr65 {k : Nat} {A : Around} (hr : Room k A) : A.units + 65 < cLine := by have := hr.un; omega
/-! ### classes made by their names -/
structure DefC (P : Program) (w : World) (K : PySem.W.Frag) (mg : Str → Option Value) (base : Heap) (CX : CXT) (k : Nat) (x : Str) (ps : List Str) (sp : Sp) : Prop where
  ex : ∃ (f : Addr) (fd : FuncData), Mk K (He.ga K x) f ∧ FnOk P w K mg base CX k f fd ps sp ∧ mg x = some (.ref (He.ga K x)) ∧ Binds K fd ps []
section
variable {X : Cx} {k j : Nat} {x : Str} {ps : List Str} {sp : Sp} {p pos : Pos} {e : Expr} {es : List Expr} {t : TA} {W : WX}
theorem DefC.make (D : DefC X.prog X.w X.K X.mg X.base CX0 k x ps sp) (hr : Room j X.A) (hk : k + 1 ≤ j) (ha : PA X (e :: es) t) (hg : Gl X x := by rfl)
    (hdb : (x == ("__debug__" : Str)) = false := by decide) (he : starEach (e :: es) X.env = (false, eval e X.env) :: starEach es X.env := by rfl) (hpl : (backTo pos (starEach es X.env)).any (·.1) = false := by rfl) :
    PE X (.Call (.Name x p) (e :: es) [] pos) (tMake (He.ga X.K x) sp [] E0 t) := by
  obtain ⟨f, fd, M, F, hm, hb⟩ := D.ex
  exact pe_make M F (hr.mono hk) hg hm hb .nil pass0 ha hdb he hpl
theorem DefC.make0 (D : DefC X.prog X.w X.K X.mg X.base CX0 k x ps sp) (hr : Room j X.A) (hk : k + 1 ≤ j) (hg : Gl X x := by rfl)
    (hdb : (x == ("__debug__" : Str)) = false := by decide) : PE X (.Call (.Name x p) [] [] pos) (tMake (He.ga X.K x) sp [] E0 tNil) := by
  obtain ⟨f, fd, M, F, hm, hb⟩ := D.ex
  exact pe_make0 M F (hr.mono hk) hg hm hb .nil pass0 hdb
/-- C(e, ..) whose __init__ may raise: what is raised is wished for at the slots as they stand -/
def tMakeS (C : Addr) (sp : Sp) (E : L2.St → XK) (t : TA) : TE := fun σ H Q => t σ H fun vs H1 => ∀ x dx, H1 x = none → H1 dx = none → dx ≠ x →
  sp (.ref x :: vs) (upd (upd H1 dx (.own x)) x (.ins C dx [])) (fun v H2 => v = .non ∧ Q (.ref x) H2) (E σ)
theorem DefC.makeX (D : DefC X.prog X.w X.K X.mg X.base (L2.CX X.prog X.w) k x ps sp) (hr : Room j X.A) (hk : k + 1 ≤ j) (tk : Takes X W) (ha : PA X (e :: es) t) (hg : Gl X x := by rfl)
    (hdb : (x == ("__debug__" : Str)) = false := by decide) (he : starEach (e :: es) X.env = (false, eval e X.env) :: starEach es X.env := by rfl) (hpl : (backTo pos (starEach es X.env)).any (·.1) = false := by rfl) :
    PE X (.Call (.Name x p) (e :: es) [] pos) (tMakeS (He.ga X.K x) sp (WE W) t) := by
  obtain ⟨f, fd, M, F, hm, hb⟩ := D.ex
  refine ⟨fun pins s σ H Q I h => ?_⟩
  refine wpAny_Call_Name_kw (ld_glob I hg hm ?_ hdb)
  refine PySem.W.callWith_K (h₀ := X.base) I.ok.mod.kin M.kp (thn (ha.run pos pins s σ H _ I h) fun us s1 ⟨vs, H1, I1, r, q⟩ => ⟨I1.kIn, ?_⟩) he hpl
  have hq := q (s1.heap.objs.size + 1) s1.heap.objs.size (I1.hok.fresh (Nat.le_succ _)) (I1.hok.fresh (Nat.le_refl _)) (Nat.ne_of_lt (Nat.lt_succ_self _))
  have I2 := Inv.made (C := He.ga X.K x) I1
  have r2 : Vals (V.ref (s1.heap.objs.size + 1) :: vs) (Value.ref (s1.heap.objs.size + 1) :: us) := .cons rfl r
  have hl : (Value.ref (s1.heap.objs.size + 1) :: us).length = ps.length := by
    have e := r2.length
    rw [F.len _ _ _ _ hq] at e
    exact e.symm
  have b2 := hb _ (Value.ref (s1.heap.objs.size + 1) :: us) I2.kIn (by rw [List.append_nil]; exact hl)
  rw [List.append_nil] at b2
  refine wpAny_call (make_map (f := f) I1.kIn M.makes M.init (beq_iff_eq.mp M.fn) (codeAny_mono (F.run _ X.stack _ _ ⟨Value.ref (s1.heap.objs.size + 1) :: us, []⟩ (Value.ref (s1.heap.objs.size + 1) :: us) _ _ (WE W σ) ((hr.mono hk).make (He.ga X.K x) us [])
    (I2.env0.make (He.ga X.K x) us []) b2 r2 hq) fun r s' hq' => ?_))
  cases r with
  | error e => exact passAt tk σ pins _ _ e s' I2 hq'
  | ok fl =>
    cases fl with
    | ret u =>
      obtain ⟨v, H', I3, rv, ev, q3⟩ := I2.after hq'
      subst ev
      exact ⟨rv, ⟨V.ref (s1.heap.objs.size + 1), H', I3, rfl, q3⟩⟩
    | next => exact False.elim hq'
    | brk => exact False.elim hq'
    | cont => exact False.elim hq'
end
/-- an own error's class -/
structure DefE (P : Program) (w : World) (K : PySem.W.Frag) (mg : Str → Option Value) (base : Heap) (k : Nat) (x : Str) (ps : List Str) (sp : Sp) : Prop where
  ex : ∃ (fd : FuncData), ExcT K x ∧ FnOk P w K mg base CX0 k (He.ma K (He.ga K x) "__init__") fd ps sp ∧ mg x = some (.ref (He.ga K x)) ∧ Binds K fd ps []
section
variable {X : Cx} {k j : Nat} {x : Str} {ps : List Str} {sp : Sp} {p pos : Pos} {e : Expr} {es : List Expr} {t : TA}
theorem DefE.pmk (D : DefE X.prog X.w X.K X.mg X.base k x ps sp) (hr : Room j X.A) (hk : k + 1 ≤ j) (ha : PA X (e :: es) t) (hg : Gl X x := by rfl)
    (hdb : (x == ("__debug__" : Str)) = false := by decide) (he : starEach (e :: es) X.env = (false, eval e X.env) :: starEach es X.env := by rfl) (hpl : (backTo pos (starEach es X.env)).any (·.1) = false := by rfl) :
    PMk X (.Call (.Name x p) (e :: es) [] pos) (tMkO (He.ga X.K x) sp [] t) := by
  obtain ⟨fd, T, F, hm, hb⟩ := D.ex
  exact pmk_oex T.oc T.iC T.tI F (hr.mono hk) hb .nil pass0 hg hm ha hdb he hpl
end
/-! ### a def by its datum -/
section
variable {P : Program} {w : World} {K : PySem.W.Frag} {mg : Str → Option Value} {base : Heap} {x : Str} {st : Stmt} {f : Addr} {fd : FuncData} {k : Nat} {sp : Sp} {N ps : List Str} {CX : CXT}
theorem Def.mk' (F : FunD K x x (defArgs st) (defBody st) (defScope st) [] [] f fd) (S : FnScope N ps (defScope st)) (hm : mg x = some (.ref f)) (len : ∀ vs H Q E, sp vs H Q E → vs.length = ps.length)
    (hb : ∀ (kV doc pm : Value) (an : Option Addr) (cdv ct : Value) (us : List Value), us.length = ps.length → bindArgs (PySem.W.fnOf x x (defArgs st) (defBody st) (defScope st) .none kV doc pm an cdv ct) ⟨us, []⟩ = pure (ps.zip us))
    (hbody : ∀ (cdv : Value) (A : Around) (outer : List Env) (s : Shared) (H : Hp) (vs : List V) (Q : VK) (E : XK), Room k (A.deeper (envOfC x (defScope st) s.heap.objs.size f cdv)) → sp vs H Q E →
      ∃ t, PSs (cxOf CX P w K mg base N x (defScope st) f cdv A outer s H E) (defBody st) t ∧ t { nx := fun _ H' => Q .non H', rt := Q } (start N vs) H) : Def P w K mg base CX (k + 1) x ps sp :=
  ⟨f, fd, F.ok S len hbody, hm, F.kp, F.bindsN hb⟩
theorem DefC.mk' {C : Str} {qual : Str} (F : FunD K "__init__" qual (defArgs st) (defBody st) (defScope st) [] [] (He.ma K (He.ga K C) "__init__") fd) (S : FnScope N ps (defScope st)) (hm : mg C = some (.ref (He.ga K C)))
    (M : Mk K (He.ga K C) (He.ma K (He.ga K C) "__init__")) (len : ∀ vs H Q E, sp vs H Q E → vs.length = ps.length)
    (hb : ∀ (kV doc pm : Value) (an : Option Addr) (cdv ct : Value) (us : List Value), us.length = ps.length → bindArgs (PySem.W.fnOf "__init__" qual (defArgs st) (defBody st) (defScope st) .none kV doc pm an cdv ct) ⟨us, []⟩ = pure (ps.zip us))
    (hbody : ∀ (cdv : Value) (A : Around) (outer : List Env) (s : Shared) (H : Hp) (vs : List V) (Q : VK) (E : XK), Room k (A.deeper (envOfC qual (defScope st) s.heap.objs.size (He.ma K (He.ga K C) "__init__") cdv)) → sp vs H Q E →
      ∃ t, PSs (cxOf CX P w K mg base N qual (defScope st) (He.ma K (He.ga K C) "__init__") cdv A outer s H E) (defBody st) t ∧ t { nx := fun _ H' => Q .non H', rt := Q } (start N vs) H) : DefC P w K mg base CX (k + 1) C ps sp :=
  ⟨_, fd, M, F.ok S len hbody, hm, F.bindsN hb⟩
theorem DefE.mk' {C : Str} {qual : Str} (F : FunD K "__init__" qual (defArgs st) (defBody st) (defScope st) [] [] (He.ma K (He.ga K C) "__init__") fd) (S : FnScope N ps (defScope st)) (hm : mg C = some (.ref (He.ga K C)))
    (M : ExcT K C) (len : ∀ vs H Q E, sp vs H Q E → vs.length = ps.length)
    (hb : ∀ (kV doc pm : Value) (an : Option Addr) (cdv ct : Value) (us : List Value), us.length = ps.length → bindArgs (PySem.W.fnOf "__init__" qual (defArgs st) (defBody st) (defScope st) .none kV doc pm an cdv ct) ⟨us, []⟩ = pure (ps.zip us))
    (hbody : ∀ (cdv : Value) (A : Around) (outer : List Env) (s : Shared) (H : Hp) (vs : List V) (Q : VK) (E : XK), Room k (A.deeper (envOfC qual (defScope st) s.heap.objs.size (He.ma K (He.ga K C) "__init__") cdv)) → sp vs H Q E →
      ∃ t, PSs (cxOf CX0 P w K mg base N qual (defScope st) (He.ma K (He.ga K C) "__init__") cdv A outer s H E) (defBody st) t ∧ t { nx := fun _ H' => Q .non H', rt := Q } (start N vs) H) : DefE P w K mg base (k + 1) C ps sp :=
  ⟨fd, M, F.ok S len hbody, hm, F.bindsN hb⟩
end
/-! ### len(set(..)) of tuples -/
theorem call_len_setT {X : Cx} : CallR X (.builtin "len") (fun xs H Q => ∃ (a : Addr) (L : List (Addr × List Int)), xs = [.ref a] ∧ H a = some (SetTO X.prog X.w a L) ∧ ((L.map (·.2)).Nodup → Q (.int L.length) H)) := by
  intro pins s σ H xs us Q I r h
  obtain ⟨a, L, rfl, ha, q⟩ := h
  rw [Vals.ref1 r]
  have hok : ObjOk X.prog X.w H s.heap a (.ext fun h => SetT0 X.prog X.w h a L) := I.hok a _ ha
  obtain ⟨⟨es, ep, t, ⟨o, ho, hex, hd⟩, hrows, htab, hnd, _, _, hroom, hfew⟩, _⟩ := hok
  have hsz : es.size = L.length := by
    have h := congrArg List.length hrows
    rw [Array.length_toList] at h
    rw [h]; simp [rowsOf]
  have hf : t.fits es.size = true := by
    have h1 := htab.sz
    rw [List.length_map] at h1
    unfold SetTable.fits SetTable.fill
    rw [htab.dm, Bool.and_eq_true, beq_iff_eq, decide_eq_true_eq]
    show t.place.size = es.size ∧ t.place.size + 0 ≤ t.mask
    omega
  refine call_len_set ho hex hd hf (by rw [hsz]; omega) ⟨.int L.length, H, I.tok _, ⟨_, by rw [hsz]⟩, q hnd⟩
/-! ### sorted(d), int keys, any number of them -/
theorem call_sortedDA {X : Cx} (hcalm : X.calm = true) : CallR X (.builtin "sorted") (fun xs H Q => ∃ (a : Addr) (kvs : List (Key × V)) (ks : List Int), xs = [.ref a] ∧ Rd H a (.dK kvs) ∧ kvs.map (·.1) = ks.map Sum.inl ∧
    ∀ (ys : List Int) (p : Addr), ys.Perm ks → ys.Pairwise (· ≤ ·) → H p = none → Q (.ref p) (upd H p (.lst (ys.map V.int)))) := by
  intro pins s σ H xs us Q I r q
  obtain ⟨a, kvs, ks, ex, hd, hks, q⟩ := q
  subst ex
  obtain ⟨u, eu, rx⟩ := vals1 r
  subst eu
  cases rx
  obtain ⟨z, lo, vs, rel, dd⟩ := dk_rd I.hok hd
  obtain ⟨ep, hat⟩ := dd.dictAt
  have hkeys : vs.map (·.1) = ks.map Sum.inl := rel.keys.symm.trans hks
  have hl : vs.length = ks.length := by
    have e := congrArg List.length hkeys
    rw [List.length_map, List.length_map] at e
    exact e
  have h16 : vs.length ≤ sizeLine := by rw [← rel.length]; exact z
  refine Calls.call_function_entry PyProof.Rows.kind_sorted PyProof.Rows.plain_sorted PyProof.Rows.entry_sorted (PyProof.Rows.args_sorted1 _) ?_
  unfold Builtin.«sorted»
  refine wpAny_bind (m := checkCount "sorted" 1 1 _) (wpAny_pure ?_)
  refine wpAny_bind (PySem.W.kdu_collect (A := X.A.in1) (PySem.W.kdl_dict (knd := mixKind X.prog X.w) (kvs := vs) (ep := ep) lo) (I.ok.hd hcalm) hat h16 fun h' tk acc hk hacc => ?_)
  have hal : acc.toList.length = ks.length := by rw [Array.length_toList, hacc.1, hl]
  have hS : IntsAre acc.toList ks := ints_each hal fun j v e => by
    obtain ⟨k, x, e1, e2⟩ := hacc.2 j v (by rw [← Array.getElem?_toList]; exact e)
    have e3 : (vs.map (·.1))[j]? = some k := by rw [List.getElem?_map, e1]; rfl
    rw [hkeys, List.getElem?_map] at e3
    cases e4 : ks[j]? with
    | none => rw [e4] at e3; cases e3
    | some y =>
      rw [e4] at e3
      have e5 : Sum.inl y = k := Option.some.inj e3
      subst e5
      rcases keyIs_shape (show keyIs (Sum.inl y) v = true from e2) with ⟨i, t, ek, ev⟩ | ⟨z, t, ek, ev⟩
      · cases ek
        exact ⟨y, t, rfl, ev⟩
      · cases ek
  have I1 : Inv X pins σ H { s with heap := h', toks := tk } := I.kept hk
  refine wpAny_bind (wpAny_newList ?_ (by rw [hal, ← hl]; exact h16))
  have hoL : (h'.push (seqObj "list" acc.toList.toArray 0)).get? h'.objs.size = some (seqObj "list" acc.toList.toArray 0) := Heap.get?_push_size _ rfl
  show wpAny _ _ _ _ _ { s with heap := h'.push (seqObj "list" acc.toList.toArray 0), toks := tk }
  refine wpAny_bind (wpAny_holding (wpAny_call_entry PyProof.Rows.slot_list_sort ⟨_, hoL, rfl⟩ PyProof.Rows.entry_list_sort
    (SrtO.list_sort_ord SrtO.swo_int (s := { s with heap := h'.push (seqObj "list" acc.toList.toArray 0), toks := tk }) hoL (by rw [hal, ← hl]; exact h16) (fun h2 => SrtO.ints_sortable hS h2) fun out h1 h2 => ⟨_, rfl, ?_⟩) (PyProof.Rows.args_list_sort _)))
  obtain ⟨g1, g2, g3⟩ := SrtO.ints_out hS h1 h2
  obtain ⟨e', he'⟩ := PyProof.Rows.sortedHeap_at (vs := acc.toList) (out := out.toArray) hoL
  have hlen : ((out.map SrtO.iv).map V.int).length ≤ sizeLine := by
    rw [List.length_map, g2.length_eq, ← hl]
    exact h16
  refine wpAny_pure ⟨_, rfl, .ref h'.objs.size, upd H h'.objs.size (.lst ((out.map SrtO.iv).map V.int)), I1.laid (t' := tk) (fun b u e => ?_) (Nat.le_refl _)
    (show ObjOk X.prog X.w _ _ _ (.lst ((out.map SrtO.iv).map V.int)) from ⟨hlen, out, e', vals_of_ints g1, he'⟩), rfl, q (out.map SrtO.iv) _ g2 g3 (I1.hok.fresh (Nat.le_refl _))⟩
  have hb : b < h'.objs.size := Heap.lt_size e
  rw [PyProof.Rows.sortedHeap_old (Nat.ne_of_lt hb) (by rw [size_push']; exact Nat.lt_succ_of_lt hb)]
  exact Heap.get?_push_of_some _ e
end Bw
set_option Elab.async false
set_option linter.all false
set_option maxRecDepth 100000
set_option maxHeartbeats 4000000
namespace Bw
open PySem PySem.Spec PyProof.Rows L2
section
variable {P : Program} {w : World} {K : PySem.W.Frag} {mg : Str → Option Value} {base : Heap}
/-! ### is_letter, is_digit -/
def isLet (n : Int) : Bool := (decide (65 ≤ n) && decide (n ≤ 90)) || (decide (97 ≤ n) && decide (n ≤ 122))
def isDig (n : Int) : Bool := decide (48 ≤ n) && decide (n ≤ 57)
def sp_is_letter : Sp := fun vs H Q _ => ∃ n : Int, vs = [.int n] ∧ Q (.bl (isLet n)) H
def sp_is_digit : Sp := fun vs H Q _ => ∃ n : Int, vs = [.int n] ∧ Q (.bl (isDig n)) H
theorem ifT {c : Bool} {A B : Prop} (hc : c = true) (h : A) : if c = true then A else B := by
  rw [if_pos hc]
  exact h
theorem ifF {c : Bool} {A B : Prop} (hc : c = false) (h : B) : if c = true then A else B := by
  rw [hc, if_neg Bool.false_ne_true]
  exact h
/-- a chain of two comparisons of ints, both known -/
theorem chain2 {a b c : Int} {f g : Int → Int → Bool} {tc : TE} {σ : L2.St} {H : Hp} {Q : VK} (hc : ∀ Q', Q' (.int c) H → tc σ H Q') (h : Q (.bl (f a b && g b c)) H) :
    (rI0 fun i j => .bl (f i j)) (.int a) (.int b) H fun z H3 => ∃ k, z = .bl k ∧ (if k = true then tc σ H3 fun w' H4 => (rI0 fun i j => .bl (g i j)) (.int b) w' H4 Q else Q (.bl false) H3) := by
  refine ⟨a, b, rfl, rfl, _, rfl, ?_⟩
  cases e : f a b with
  | true =>
    rw [e] at h
    exact iteT (hc _ ⟨_, _, rfl, rfl, h⟩)
  | false =>
    rw [e] at h
    exact iteF h
theorem sc_is_letter : FnScope ["byte"] ["byte"] (defScope (top 37)) := ⟨rfl, rfl, rfl, by decide +kernel, rfl, by decide +kernel, by decide +kernel⟩
theorem ok_is_letter (T : Txt K mg) : Def P w K mg base CX0 1 "is_letter" ["byte"] sp_is_letter := by
  obtain ⟨fd, F⟩ := fd_is_letter T
  refine Def.mk' F sc_is_letter (gl_is_letter T) (fun vs H Q E h => by obtain ⟨n, rfl, _⟩ := h; rfl) (fun _ _ _ _ _ _ us hl => match us, hl with | [_], _ => rfl) fun cdv A outer s H vs Q E hr h => ?_
  refine ⟨_, PSs.nox (pss_one (ps_ret (pe_or (pe_chain op_le op_le pe_int (pv 0) pe_int) (pe_one (pe_chain op_le op_le pe_int (pv 0) pe_int))))), ?_⟩
  obtain ⟨n, rfl, h⟩ := h
  refine ⟨_, rfl, chain2 (fun _ z => z) ⟨_, rfl, ?_⟩⟩
  unfold isLet at h
  cases e : (decide (65 ≤ n) && decide (n ≤ 90)) with
  | true =>
    rw [e] at h
    exact iteT h
  | false =>
    rw [e] at h
    exact iteF ⟨_, rfl, chain2 (fun _ z => z) h⟩
theorem sc_is_digit : FnScope ["byte"] ["byte"] (defScope (top 38)) := ⟨rfl, rfl, rfl, by decide +kernel, rfl, by decide +kernel, by decide +kernel⟩
theorem ok_is_digit (T : Txt K mg) : Def P w K mg base CX0 1 "is_digit" ["byte"] sp_is_digit := by
  obtain ⟨fd, F⟩ := fd_is_digit T
  refine Def.mk' F sc_is_digit (gl_is_digit T) (fun vs H Q E h => by obtain ⟨n, rfl, _⟩ := h; rfl) (fun _ _ _ _ _ _ us hl => match us, hl with | [_], _ => rfl) fun cdv A outer s H vs Q E hr h => ?_
  refine ⟨_, PSs.nox (pss_one (ps_ret (pe_chain op_le op_le pe_int (pv 0) pe_int))), ?_⟩
  obtain ⟨n, rfl, h⟩ := h
  exact ⟨_, rfl, chain2 (fun _ z => z) h⟩
/-! ### behind_remark, behind_run: how far a run goes -/
/-- from the place i on -/
def runTo (p : Int → Bool) (ns : List Int) (i : Nat) : Nat := i + ((ns.drop i).takeWhile p).length
theorem runTo_step {p : Int → Bool} {ns : List Int} {i : Nat} {n : Int} (h : ns[i]? = some n) (hp : p n = true) : runTo p ns i = runTo p ns (i + 1) := by
  unfold runTo
  obtain ⟨hl, e⟩ := List.getElem?_eq_some_iff.mp h
  rw [List.drop_eq_getElem_cons hl, e, List.takeWhile_cons_of_pos hp, List.length_cons]
  omega
theorem runTo_stop {p : Int → Bool} {ns : List Int} {i : Nat} {n : Int} (h : ns[i]? = some n) (hp : ¬ p n = true) : runTo p ns i = i := by
  unfold runTo
  obtain ⟨hl, e⟩ := List.getElem?_eq_some_iff.mp h
  rw [List.drop_eq_getElem_cons hl, e, List.takeWhile_cons_of_neg hp]
  rfl
theorem runTo_end {p : Int → Bool} {ns : List Int} {i : Nat} (h : ns.length ≤ i) : runTo p ns i = i := by
  unfold runTo
  rw [List.drop_eq_nil_of_le h]
  rfl
theorem atI_map {ns : List Int} {i : Nat} {n : Int} (h : ns[i]? = some n) : atI (ns.map V.int) (i : Int) = some (.int n) := atI_nat (by rw [List.getElem?_map, h]; rfl)
def sp_behind_remark (K : PySem.W.Frag) : Sp := fun vs H Q _ => ∃ (a : Addr) (ns : List Int) (i : Nat), vs = [.ref a, .int i] ∧ SqL K H a (ns.map V.int) ∧ Q (.int (runTo (fun n => !decide (n = 10)) ns i : Nat)) H
theorem sc_behind_remark : FnScope ["text", "at"] ["text", "at"] (defScope (top 39)) := ⟨rfl, rfl, rfl, by decide +kernel, rfl, by decide +kernel, by decide +kernel⟩
theorem ok_behind_remark (T : Txt K mg) : Def P w K mg base CX0 1 "behind_remark" ["text", "at"] (sp_behind_remark K) := by
  obtain ⟨fd, F⟩ := fd_behind_remark T
  refine Def.mk' F sc_behind_remark (gl_behind_remark T) (fun vs H Q E h => by obtain ⟨_, _, _, rfl, _⟩ := h; rfl) (fun _ _ _ _ _ _ us hl => match us, hl with | [_, _], _ => rfl) fun cdv A outer s H vs Q E hr h => ?_
  refine ⟨_, PSs.nox (pss_cons (ps_while PassesOwn.never (PW.pt (pw_and (pt_cmpR op_lt (pv 1) (pe_callB call_len_seq (by rfl) (fr_len T) PySem.boot_len (pa_cons (pv 0) pa_nil)) (nomark _)) (pw_and1 (pt_cmpR op_ne (pe_ix ix_list (pv 0) (pv 1) (fun _ _ => rfl)) (pe_gi (in_LINE_END T)) (nomark _)))))
      (pss_one (ps_set (i := 1) sc_behind_remark.nd rfl (Or.inl rfl) (pe_op op_add (pv 1) pe_int))))
    (pss_one (ps_ret (pv 1)))), ?_⟩
  obtain ⟨a, ns, i, rfl, ha, h⟩ := h
  refine ⟨fun m σ H' => H' = H ∧ ∃ j : Nat, m = ns.length - j ∧ σ = [some (.ref a), some (.int j)] ∧ runTo (fun n => !decide (n = 10)) ns j = runTo (fun n => !decide (n = 10)) ns i, ⟨_, rfl, i, rfl, rfl, rfl⟩, ?_⟩
  rintro m σ _ ⟨rfl, j, rfl, rfl, hj⟩
  refine ⟨_, rfl, _, rfl, _, _, rfl, .inl ha, _, _, rfl, rfl, _, rfl, ?_⟩
  rw [List.length_map]
  by_cases c : (j : Int) < ns.length
  · obtain ⟨n, hn⟩ : ∃ n, ns[j]? = some n := ⟨_, List.getElem?_eq_getElem (by omega : j < ns.length)⟩
    refine ifT (decide_eq_true c) ⟨_, rfl, _, rfl, _, _, _, _, rfl, rfl, ha, atI_map hn, rfl, _, rfl, ?_⟩
    by_cases c2 : n = 10
    · refine ifF (by simp [c2]) ⟨_, rfl, ?_⟩
      rw [runTo_stop hn (by simp [c2])] at hj
      rw [hj]
      exact h
    · refine ifT (by simp [c2]) ⟨_, fun _ _ z => z, ?_⟩
      refine ⟨_, rfl, _, _, rfl, rfl, ns.length - (j + 1), by omega, rfl, j + 1, rfl, rfl, ?_⟩
      rw [← hj, runTo_step hn (by simp [c2])]
  · refine ifF (decide_eq_false c) (ifF rfl ⟨_, rfl, ?_⟩)
    rw [runTo_end (by omega)] at hj
    rw [hj]
    exact h
end
end Bw
set_option Elab.async false
set_option linter.all false
set_option maxRecDepth 100000
set_option maxHeartbeats 4000000
namespace Bw
open PySem PySem.Spec PyProof.Rows L2
section
variable {P : Program} {w : World} {K : PySem.W.Frag} {mg : Str → Option Value} {base : Heap}
def runP (hl : Bool) (n : Int) : Bool := isDig n || (hl && isLet n)
def sp_behind_run (K : PySem.W.Frag) : Sp := fun vs H Q _ => ∃ (a : Addr) (ns : List Int) (i : Nat) (hl : Bool), vs = [.ref a, .int i, .bl hl] ∧ SqL K H a (ns.map V.int) ∧ Q (.int (runTo (runP hl) ns i : Nat)) H
theorem sc_behind_run : FnScope ["text", "at", "has_letters"] ["text", "at", "has_letters"] (defScope (top 40)) := ⟨rfl, rfl, rfl, by decide +kernel, rfl, by decide +kernel, by decide +kernel⟩
theorem ok_behind_run (T : Txt K mg) : Def P w K mg base CX0 2 "behind_run" ["text", "at", "has_letters"] (sp_behind_run K) := by
  obtain ⟨fd, F⟩ := fd_behind_run T
  refine Def.mk' F sc_behind_run (gl_behind_run T) (fun vs H Q E h => by obtain ⟨_, _, _, _, rfl, _⟩ := h; rfl) (fun _ _ _ _ _ _ us hl => match us, hl with | [_, _, _], _ => rfl) fun cdv A outer s H vs Q E hr h => ?_
  refine ⟨_, PSs.nox (pss_cons (ps_while PassesOwn.never (PW.pt (pw_and (pt_cmpR op_lt (pv 1) (pe_callB call_len_seq (by rfl) (fr_len T) PySem.boot_len (pa_cons (pv 0) pa_nil)) (nomark _)) (pw_and1 (PW.pt (pw_or (pt_val (Def.call (ok_is_digit T) hr (by decide) (pa_cons (pe_ix ix_list (pv 0) (pv 1) (fun _ _ => rfl)) pa_nil))) (pw_or1 (PW.pt (pw_and (pt_val (pv 2)) (pw_and1 (pt_val (Def.call (ok_is_letter T) hr (by decide) (pa_cons (pe_ix ix_list (pv 0) (pv 1) (fun _ _ => rfl)) pa_nil))))))))))))
      (pss_one (ps_set (i := 1) sc_behind_run.nd rfl (Or.inl rfl) (pe_op op_add (pv 1) pe_int))))
    (pss_one (ps_ret (pv 1)))), ?_⟩
  obtain ⟨a, ns, i, hl, rfl, ha, h⟩ := h
  refine ⟨fun m σ H' => H' = H ∧ ∃ j : Nat, m = ns.length - j ∧ σ = [some (.ref a), some (.int j), some (.bl hl)] ∧ runTo (runP hl) ns j = runTo (runP hl) ns i, ⟨_, rfl, i, rfl, rfl, rfl⟩, ?_⟩
  rintro m σ H1 ⟨rfl, j, rfl, rfl, hj⟩
  refine ⟨_, rfl, _, rfl, _, _, rfl, .inl ha, _, _, rfl, rfl, _, rfl, ?_⟩
  rw [List.length_map]
  by_cases c : (j : Int) < ns.length
  · obtain ⟨n, hn⟩ : ∃ n, ns[j]? = some n := ⟨_, List.getElem?_eq_getElem (by omega : j < ns.length)⟩
    have go : runP hl n = true → ∃ m', m' < ns.length - j ∧ (H1 = H1 ∧ ∃ j_1 : Nat, m' = ns.length - j_1 ∧ [some (V.ref a), some (V.int ((j : Int) + 1)), some (V.bl hl)] = [some (V.ref a), some (V.int (j_1 : Int)), some (V.bl hl)] ∧ runTo (runP hl) ns j_1 = runTo (runP hl) ns i) := fun e =>
      ⟨ns.length - (j + 1), by omega, rfl, j + 1, rfl, rfl, by rw [← hj, runTo_step hn e]⟩
    have no : ¬ runP hl n = true → Q (.int (j : Int)) H1 := fun e => by
      rw [runTo_stop hn e] at hj
      rw [hj]
      exact h
    unfold runP at go no
    refine ifT (decide_eq_true c) ⟨_, rfl, _, rfl, _, _, _, _, rfl, rfl, ha, atI_map hn, _, rfl, _, rfl, ?_⟩
    cases e1 : isDig n with
    | true =>
      rw [e1] at go
      exact ifT rfl (ifT rfl ⟨_, fun _ _ z => z, _, rfl, _, _, rfl, rfl, go rfl⟩)
    | false =>
      rw [e1] at go no
      refine ifF rfl ⟨_, rfl, _, rfl, ?_⟩
      cases hl with
      | false => exact ifF rfl (ifF rfl ⟨_, rfl, no (by simp)⟩)
      | true =>
        refine ifT rfl ⟨_, rfl, _, rfl, _, _, _, _, rfl, rfl, ha, atI_map hn, _, rfl, _, rfl, ?_⟩
        cases e2 : isLet n with
        | true =>
          rw [e2] at go
          exact ifT rfl ⟨_, fun _ _ z => z, _, rfl, _, _, rfl, rfl, go rfl⟩
        | false =>
          rw [e2] at no
          exact ifF rfl ⟨_, rfl, no (by simp)⟩
  · refine ifF (decide_eq_false c) (ifF rfl ⟨_, rfl, ?_⟩)
    rw [runTo_end (by omega)] at hj
    rw [hj]
    exact h
/-! ### instances -/
theorem putF_new {f : Str} {v : V} : ∀ {fs : List (Str × V)}, f ∉ fs.map (·.1) → putF f v fs = fs ++ [(f, v)]
  | [], _ => rfl
  | (g, u) :: r, h => by
    have h1 : ¬ g = f := fun e => h (by rw [e]; exact List.mem_cons_self)
    have h2 : f ∉ r.map (·.1) := fun e => h (List.mem_cons_of_mem _ e)
    show putF f v ((g, u) :: r) = (g, u) :: (r ++ [(f, v)])
    rw [← putF_new h2]
    exact if_neg h1
def tokF (b e f v : V) : List (Str × V) := [("begins", b), ("ends", e), ("form", f), ("told", v)]
/-- C(v, ..): the attributes in order -/
def spFields (C : Addr) (F : List V → List (Str × V)) : Sp := fun vs H Q _ => ∃ (p dx : Addr) (us : List V), vs = .ref p :: us ∧ H p = some (.ins C dx []) ∧ Q .non (upd H p (.ins C dx (F us)))
theorem tok_put (b e f v : V) : putF "told" v (putF "form" f (putF "ends" e (putF "begins" b []))) = tokF b e f v := by kernel_rfl
def sp_Token_init (K : PySem.W.Frag) : Sp := fun vs H Q _ => ∃ (p dx : Addr) (b e f v : V), vs = [.ref p, b, e, f, v] ∧ H p = some (.ins (He.ga K "Token") dx []) ∧ Q .non (upd H p (.ins (He.ga K "Token") dx (tokF b e f v)))
theorem sc_Token_init : FnScope ["self", "begins", "ends", "form", "told"] ["self", "begins", "ends", "form", "told"] (defScope (inClass (top 35) 0)) := ⟨rfl, rfl, rfl, by decide +kernel, rfl, by decide +kernel, by decide +kernel⟩
theorem ok_Token_init (T : Txt K mg) : DefC P w K mg base CX0 1 "Token" ["self", "begins", "ends", "form", "told"] (sp_Token_init K) := by
  obtain ⟨fd, F⟩ := fd_Token_init T
  refine DefC.mk' F sc_Token_init (gl_Token T) (mk_Token T) (fun vs H Q E h => by obtain ⟨_, _, _, _, _, _, rfl, _⟩ := h; rfl) (fun _ _ _ _ _ _ us hl => match us, hl with | [_, _, _, _, _], _ => rfl) fun cdv A outer s H vs Q E hr h => ?_
  refine ⟨_, PSs.nox (pss_cons (ps_fld (pv 0) (pv 1) rfl)
    (pss_cons (ps_fld (pv 0) (pv 2) rfl)
    (pss_cons (ps_fld (pv 0) (pv 3) rfl)
    (pss_one (ps_fld (pv 0) (pv 4) rfl))))), ?_⟩
  obtain ⟨p, dx, b, e, f, v, rfl, hp, h⟩ := h
  refine ⟨_, rfl, _, rfl, _, _, _, _, rfl, hp, cl_Token T, na_Token_begins T, (by show 0 < 1000; decide), ?_⟩
  refine ⟨_, rfl, _, rfl, _, _, _, _, rfl, upd_same, cl_Token T, na_Token_ends T, (by show 1 < 1000; decide), ?_⟩
  rw [upd_upd]
  refine ⟨_, rfl, _, rfl, _, _, _, _, rfl, upd_same, cl_Token T, na_Token_form T, (by show 2 < 1000; decide), ?_⟩
  rw [upd_upd]
  refine ⟨_, rfl, _, rfl, _, _, _, _, rfl, upd_same, cl_Token T, na_Token_told T, (by show 3 < 1000; decide), ?_⟩
  rw [upd_upd, tok_put]
  exact h
end
end Bw
set_option Elab.async false
set_option linter.all false
set_option maxRecDepth 100000
set_option maxHeartbeats 4000000
namespace Bw
open PySem PySem.Spec PyProof.Rows L2
section
variable {P : Program} {w : World} {K : PySem.W.Frag} {mg : Str → Option Value} {base : Heap}
/-! ### data: lists and tuples of ints -/
abbrev dI (ns : List Int) : List PyData := ns.map PyData.int
theorem dp_ints {K : PySem.W.Frag} {H : Hp} : ∀ ns : List Int, DpAll K H (ns.map V.int) (dI ns)
  | [] => .nil
  | n :: r => .cons (.int n) (dp_ints r)
theorem lay_ints : ∀ ns : List Int, PyData.canLayAll0 (dI ns) = true
  | [] => by simp [PyData.canLayAll0]
  | n :: r => by
    have h := lay_ints r
    simp only [List.map_cons, PyData.canLayAll0, PyData.canLay0, Bool.true_and]
    exact h
theorem depth_ints : ∀ ns : List Int, PyData.depthAll (dI ns) = 0
  | [] => by simp [PyData.depthAll]
  | n :: r => by
    have h := depth_ints r
    simp only [List.map_cons, PyData.depthAll, PyData.depth]
    rw [h]
    rfl
theorem eqv_ints : ∀ ns ms : List Int, PyData.eqvAll (dI ns) (dI ms) = decide (ns = ms)
  | [], [] => by simp [PyData.eqvAll]
  | [], m :: ms => by simp [PyData.eqvAll]
  | n :: ns, [] => by simp [PyData.eqvAll]
  | n :: ns, m :: ms => by
    have h := eqv_ints ns ms
    simp only [List.map_cons, PyData.eqvAll, PyData.eqv]
    rw [h]
    by_cases e : n = m
    · subst e; simp
    · simp [e]
theorem shaped_lst (ns : List Int) : SeqAt.shaped (.list (dI ns)) = true := by
  have h1 := lay_ints ns
  have h2 : PyData.depth (.list (dI ns)) ≤ 64 := by
    simp only [PyData.depth, depth_ints ns]
    omega
  show (PyData.canLay0 (.list (dI ns)) && decide (PyData.depth (.list (dI ns)) ≤ 64)) = true
  rw [Bool.and_eq_true]
  exact ⟨by simp only [PyData.canLay0]; exact h1, decide_eq_true h2⟩
theorem shaped_tup (ns : List Int) : SeqAt.shaped (.tuple (dI ns)) = true := by
  have h1 := lay_ints ns
  have h2 : PyData.depth (.tuple (dI ns)) ≤ 64 := by
    simp only [PyData.depth, depth_ints ns]
    omega
  show (PyData.canLay0 (.tuple (dI ns)) && decide (PyData.depth (.tuple (dI ns)) ≤ 64)) = true
  rw [Bool.and_eq_true]
  exact ⟨by simp only [PyData.canLay0]; exact h1, decide_eq_true h2⟩
/-! ### frames -/
/-- all that was tracked is as it was, but at M -/
def But (M : List Addr) (H H' : Hp) : Prop := ∀ b o, H b = some o → b ∉ M → H' b = some o
theorem But.refl (M : List Addr) (H : Hp) : But M H H := fun _ _ h _ => h
theorem But.trans {M : List Addr} {H H1 H2 : Hp} (a : But M H H1) (b : But M H1 H2) : But M H H2 := fun c o h n => b c o (a c o h n) n
theorem But.mono {M N : List Addr} {H H1 : Hp} (a : But M H H1) (s : ∀ x ∈ M, x ∈ N) : But N H H1 := fun c o h n => a c o h fun z => n (s c z)
theorem But.of_same {M : List Addr} {H H1 : Hp} (a : Same H H1) : But M H H1 := fun c o h _ => a c o h
theorem But.same {H H1 : Hp} (a : But [] H H1) : Same H H1 := fun c o h => a c o h (by simp)
theorem But.put {M : List Addr} {H : Hp} {a : Addr} {o : HO} (h : a ∈ M) : But M H (upd H a o) := fun c u e n => by
  rw [upd_ne (fun z => n (by rw [z]; exact h))]
  exact e
theorem same_new {H : Hp} {a : Addr} {o : HO} (h : H a = none) : Same H (upd H a o) := fun c u e => by
  rw [upd_ne (ne_of_none e h)]
  exact e
theorem But.new {M : List Addr} {H : Hp} {a : Addr} {o : HO} (h : H a = none) : But M H (upd H a o) := .of_same (same_new h)
theorem Same.tup {H H' : Hp} {K : PySem.W.Frag} {a : Addr} {xs : List V} (e : Same H H') (h : SqT K H a xs) : SqT K H' a xs := by
  rcases h with (h | ⟨o, h⟩) | h
  · exact .inl (.inl (e _ _ h))
  · exact .inl (.inr ⟨o, e _ _ h⟩)
  · exact .inr h
/-- what is new since H -/
def newer (H H' : Hp) : Hp := fun b => match H b with
  | none => H' b
  | some _ => none
theorem newer_of {H H' : Hp} {b : Addr} {o : HO} (h : H b = none) (e : H' b = some o) : newer H H' b = some o := by
  unfold newer
  rw [h]
  exact e
theorem newer_old {H H' : Hp} {b : Addr} {o : HO} (h : H b = some o) : newer H H' b = none := by
  unfold newer
  rw [h]
theorem newer_some {H H' : Hp} {b : Addr} {o : HO} (h : newer H H' b = some o) : H b = none ∧ H' b = some o := by
  unfold newer at h
  cases e : H b with
  | none => rw [e] at h; exact ⟨rfl, h⟩
  | some u => rw [e] at h; cases h
theorem newer_in (H H' : Hp) : Same (newer H H') H' := fun _ _ h => (newer_some h).2
theorem newer_up {H H1 H2 : Hp} (s : Same H1 H2) : Same (newer H H1) (newer H H2) := fun b o h => newer_of (newer_some h).1 (s b o (newer_some h).2)
theorem newer_down {H H1 H2 : Hp} (s : Same H H1) : Same (newer H1 H2) (newer H H2) := fun b o h => newer_of (s.free (newer_some h).1) (newer_some h).2
theorem newer_put {H H1 : Hp} {a : Addr} {o : HO} (h : H a = none) : newer H (upd H1 a o) = upd (newer H H1) a o := by
  funext b
  by_cases hb : b = a
  · rw [hb, upd_same]
    exact newer_of h upd_same
  · rw [upd_ne hb]
    unfold newer
    rw [upd_ne hb]
theorem newer_skip {H H1 : Hp} {a : Addr} {o u : HO} (h : H a = some u) : newer H (upd H1 a o) = newer H H1 := by
  funext b
  by_cases hb : b = a
  · rw [hb, newer_old h, newer_old h]
  · unfold newer
    rw [upd_ne hb]
/-! ### errors -/
def fxd (c wh : V) : List (Str × V) := [("where", wh), ("code", c)]
/-- an error Fault(code, place), all but M as it was -/
def Flt (K : PySem.W.Frag) (M : List Addr) (H : Hp) (E : XK) (c wh : Int) : Prop := ∀ (H' : Hp) (d : Addr), But M H H' → H' d = some (.xd (fxd (.int c) (.int wh))) → E (.ref (He.ga K "Fault")) (some d) H'
theorem Flt.up {K : PySem.W.Frag} {M N : List Addr} {H H1 : Hp} {E : XK} {c wh : Int} (h : Flt K M H E c wh) (b : But M H H1) (s : ∀ x ∈ N, x ∈ M) : Flt K N H1 E c wh := fun H2 d b2 e => h H2 d (b.trans (b2.mono s)) e
def sp_Fault_init (K : PySem.W.Frag) : Sp := fun vs H Q _ => ∃ (a : Addr) (c wh : V), vs = [.ref a, c, wh] ∧ H a = some (exo a (He.ga K "Fault") none) ∧
  ∀ d, H d = none → d ≠ a → Q .non (upd (upd (upd H d (exd d [("code", c)])) a (exo a (He.ga K "Fault") (some d))) d (exd d (fxd c wh)))
theorem sc_Fault_init : FnScope ["self", "code", "where"] ["self", "code", "where"] (defScope (inClass (top 34) 0)) := ⟨rfl, rfl, rfl, by decide +kernel, rfl, by decide +kernel, by decide +kernel⟩
theorem ok_Fault_init (T : Txt K mg) : DefE P w K mg base 1 "Fault" ["self", "code", "where"] (sp_Fault_init K) := by
  obtain ⟨fd, F⟩ := fd_Fault_init T
  refine DefE.mk' F sc_Fault_init (gl_Fault T) (ex_Fault T) (fun vs H Q E h => by obtain ⟨_, _, _, rfl, _⟩ := h; rfl) (fun _ _ _ _ _ _ us hl => match us, hl with | [_, _, _], _ => rfl) fun cdv A outer s H vs Q E hr h => ?_
  refine ⟨_, PSs.nox (pss_cons (ps_ost (pv 0) (pv 1))
    (pss_one (ps_ost (pv 0) (pv 2)))), ?_⟩
  obtain ⟨a, c, wh, rfl, ha, h⟩ := h
  refine ⟨_, rfl, _, rfl, a, _, rfl, (ex_Fault T).oc, na_Fault_code T, .inl ⟨ha, fun d nd ne => ?_⟩⟩
  refine ⟨_, rfl, _, rfl, a, _, rfl, (ex_Fault T).oc, na_Fault_where T, .inr ⟨d, _, upd_same, (upd_ne ne).trans upd_same, by show 1 ≤ 900; decide, ?_⟩⟩
  exact h d nd ne
def sp_Refusal_init (K : PySem.W.Frag) : Sp := fun vs H Q _ => ∃ (a : Addr) (c : V), vs = [.ref a, c] ∧ H a = some (exo a (He.ga K "Refusal") none) ∧
  ∀ d, H d = none → d ≠ a → Q .non (upd (upd H d (exd d [("number", c)])) a (exo a (He.ga K "Refusal") (some d)))
theorem sc_Refusal_init : FnScope ["self", "number"] ["self", "number"] (defScope (inClass (top 94) 0)) := ⟨rfl, rfl, rfl, by decide +kernel, rfl, by decide +kernel, by decide +kernel⟩
theorem ok_Refusal_init (T : Txt K mg) : DefE P w K mg base 1 "Refusal" ["self", "number"] (sp_Refusal_init K) := by
  obtain ⟨fd, F⟩ := fd_Refusal_init T
  refine DefE.mk' F sc_Refusal_init (gl_Refusal T) (ex_Refusal T) (fun vs H Q E h => by obtain ⟨_, _, rfl, _⟩ := h; rfl) (fun _ _ _ _ _ _ us hl => match us, hl with | [_, _], _ => rfl) fun cdv A outer s H vs Q E hr h => ?_
  refine ⟨_, PSs.nox (pss_one (ps_ost (pv 0) (pv 1))), ?_⟩
  obtain ⟨a, c, rfl, ha, h⟩ := h
  exact ⟨_, rfl, _, rfl, a, _, rfl, (ex_Refusal T).oc, na_Refusal_number T, .inl ⟨ha, fun d nd ne => h d nd ne⟩⟩
/-- Fault(c, wh) is made: its dict d is new -/
theorem fault_made {H : Hp} {c wh : V} {R : XK} (h : ∀ d, H d = none → R (.ref (He.ga K "Fault")) (some d) (upd H d (.xd (fxd c wh)))) :
    ([c, wh] : List V).length ≤ 1000 ∧ ∀ a, H a = none → sp_Fault_init K (.ref a :: ([c, wh] ++ [])) (upd H a (exo a (He.ga K "Fault") none))
      (fun v H2 => v = .non ∧ ∃ (d : Addr) (fs : List (Str × V)), H2 a = some (exo a (He.ga K "Fault") (some d)) ∧ H2 d = some (exd d fs) ∧ H d = none ∧ R (.ref (He.ga K "Fault")) (some d) (upd (del H2 a) d (.xd fs))) (fun _ _ _ => False) := by
  refine ⟨by show 2 ≤ 1000; decide, fun a na => ⟨a, c, wh, rfl, upd_same, fun d nd ne => ⟨rfl, d, fxd c wh, ?_, upd_same, ?_, ?_⟩⟩⟩
  · rw [upd_ne (Ne.symm ne), upd_same]
  · rw [upd_ne ne] at nd
    exact nd
  · rw [upd_ne ne] at nd
    have e : upd (del (upd (upd (upd (upd H a (exo a (He.ga K "Fault") none)) d (exd d [("code", c)])) a (exo a (He.ga K "Fault") (some d))) d (exd d (fxd c wh))) a) d (.xd (fxd c wh)) = upd H d (.xd (fxd c wh)) := by
      funext b
      by_cases hb : b = d
      · rw [hb, upd_same, upd_same]
      · rw [upd_ne hb, upd_ne hb]
        by_cases ha : b = a
        · rw [ha, del_same, na]
        · rw [del_ne ha, upd_ne hb, upd_ne ha, upd_ne hb, upd_ne ha]
    rw [e]
    exact h d nd
theorem refusal_made {H : Hp} {c : V} {R : XK} (h : ∀ d, H d = none → R (.ref (He.ga K "Refusal")) (some d) (upd H d (.xd [("number", c)]))) :
    ([c] : List V).length ≤ 1000 ∧ ∀ a, H a = none → sp_Refusal_init K (.ref a :: ([c] ++ [])) (upd H a (exo a (He.ga K "Refusal") none))
      (fun v H2 => v = .non ∧ ∃ (d : Addr) (fs : List (Str × V)), H2 a = some (exo a (He.ga K "Refusal") (some d)) ∧ H2 d = some (exd d fs) ∧ H d = none ∧ R (.ref (He.ga K "Refusal")) (some d) (upd (del H2 a) d (.xd fs))) (fun _ _ _ => False) := by
  refine ⟨by show 1 ≤ 1000; decide, fun a na => ⟨a, c, rfl, upd_same, fun d nd ne => ⟨rfl, d, [("number", c)], upd_same, ?_, ?_, ?_⟩⟩⟩
  · rw [upd_ne ne, upd_same]
  · rw [upd_ne ne] at nd
    exact nd
  · rw [upd_ne ne] at nd
    have e : upd (del (upd (upd (upd H a (exo a (He.ga K "Refusal") none)) d (exd d [("number", c)])) a (exo a (He.ga K "Refusal") (some d))) a) d (.xd [("number", c)]) = upd H d (.xd [("number", c)]) := by
      funext b
      by_cases hb : b = d
      · rw [hb, upd_same, upd_same]
      · rw [upd_ne hb, upd_ne hb]
        by_cases ha : b = a
        · rw [ha, del_same, na]
        · rw [del_ne ha, upd_ne ha, upd_ne hb, upd_ne ha]
    rw [e]
    exact h d nd
/-! ### spelled -/
def cpV (z : Str) : List Int := z.cps.toList.map fun (c : Nat) => (c : Int)
def sp_spelled : Sp := fun vs H Q _ => ∃ z : Str, vs = [.str z] ∧ z.length ≤ sizeLine ∧ ∀ p, H p = none → Q (.ref p) (upd H p (.lst ((cpV z).map V.int)))
theorem sc_spelled : FnScope ["text", "sign"] ["text"] (defScope (top 36)) := ⟨rfl, rfl, rfl, by decide +kernel, rfl, by decide +kernel, by decide +kernel⟩
theorem ok_spelled (T : Txt K mg) : Def P w K mg base CX0 1 "spelled" ["text"] (sp_spelled) := by
  obtain ⟨fd, F⟩ := fd_spelled T
  refine Def.mk' F sc_spelled (gl_spelled T) (fun vs H Q E h => by obtain ⟨_, rfl, _⟩ := h; rfl) (fun _ _ _ _ _ _ us hl => match us, hl with | [_], _ => rfl) fun cdv A outer s H vs Q E hr h => ?_
  refine ⟨_, PSs.nox (pss_one (ps_ret (pe_lc (own := [("sign", 1)]) (g := gName 1) rfl sc_spelled.nd (pi_str (pv 0)) (blkOk_by (own := [("sign", 1)]) (N := ["text", "sign"]) (sc := defScope (top 36)) (by decide +kernel)) (fun _ _ _ _ _ => pg_name (i := 1) sc_spelled.nd rfl (Or.inl rfl)) (fun _ _ _ _ _ => pts_nil) (fun _ _ _ _ _ => pe_callB call_ord (by rfl) (fr_ord T) PyProof.Rows.boot_ord (pa_cons (pv 1) pa_nil))))), ?_⟩
  obtain ⟨z, rfl, hz, h⟩ := h
  refine ⟨_, rfl, z, rfl, fun D hD => lc_it (walk_str (z := z)) (fun i H' => H' = upd H D (.lst (((cpV z).take i).map V.int))) rfl (fun _ _ _ _ => trivial) ?_ ?_⟩
  · rintro i x H1 H2 hi rfl ⟨rfl, c, hc, rfl⟩
    refine ⟨rfl, _, rfl, _, rfl, rfl, _, upd_same, ?_, ?_⟩
    · rw [List.length_map, List.length_take]
      have : z.cps.size = z.length := rfl
      omega
    · rw [upd_upd]
      have e : (cpV z)[i]? = some (c : Int) := by
        unfold cpV
        rw [List.getElem?_map, Array.getElem?_toList, hc]
        rfl
      have e2 : (cpV z).take (i + 1) = (cpV z).take i ++ [(c : Int)] := by
        rw [List.take_succ, e]
        rfl
      rw [e2, List.map_append]
      rfl
  · rintro H1 rfl
    have e : (cpV z).take z.cps.size = cpV z := List.take_of_length_le (by unfold cpV; simp)
    rw [e]
    exact h D hD
end
end Bw
set_option Elab.async false
set_option linter.all false
set_option maxRecDepth 100000
set_option maxHeartbeats 4000000
namespace Bw
open PySem PySem.Spec PyProof.Rows L2
section
variable {P : Program} {w : World} {K : PySem.W.Frag} {mg : Str → Option Value} {base : Heap}
abbrev STok := VamvsBase.Tok
open VamvsBase (PTok Bytes token isLetter isDigit isBlank numberOf decimal word RESERVED lex)
/-! ### bytes -/
def byV (b : Bytes) : List Int := b.map fun c => (c.toNat : Int)
theorem isLet_byte (c : UInt8) : isLet (c.toNat : Int) = isLetter c := by
  unfold isLet isLetter
  rw [Bool.decide_and, Bool.decide_and]
  have h1 : decide (65 ≤ (c.toNat : Int)) = decide (65 ≤ c.toNat) := decide_eq_decide.mpr (by omega)
  have h2 : decide ((c.toNat : Int) ≤ 90) = decide (c.toNat ≤ 90) := decide_eq_decide.mpr (by omega)
  have h3 : decide (97 ≤ (c.toNat : Int)) = decide (97 ≤ c.toNat) := decide_eq_decide.mpr (by omega)
  have h4 : decide ((c.toNat : Int) ≤ 122) = decide (c.toNat ≤ 122) := decide_eq_decide.mpr (by omega)
  rw [h1, h2, h3, h4]
theorem isDig_byte (c : UInt8) : isDig (c.toNat : Int) = isDigit c := by
  unfold isDig isDigit
  rw [Bool.decide_and]
  have h1 : decide (48 ≤ (c.toNat : Int)) = decide (48 ≤ c.toNat) := decide_eq_decide.mpr (by omega)
  have h2 : decide ((c.toNat : Int) ≤ 57) = decide (c.toNat ≤ 57) := decide_eq_decide.mpr (by omega)
  rw [h1, h2]
theorem byV_len (b : Bytes) : (byV b).length = b.length := List.length_map _
theorem byV_get {b : Bytes} {i : Nat} {c : UInt8} (h : b[i]? = some c) : (byV b)[i]? = some (c.toNat : Int) := by
  unfold byV
  rw [List.getElem?_map, h]
  rfl
theorem byV_inj : ∀ {a b : Bytes}, byV a = byV b → a = b
  | [], [], _ => rfl
  | [], _ :: _, h => by cases h
  | _ :: _, [], h => by cases h
  | x :: a, y :: b, h => by
    unfold byV at h
    rw [List.map_cons, List.map_cons, List.cons.injEq] at h
    have e : x = y := UInt8.toNat_inj.mp (by omega)
    rw [e, byV_inj h.2]
theorem runTo_byte {p : Int → Bool} {q : UInt8 → Bool} (h : ∀ c, p (c.toNat : Int) = q c) (b : Bytes) (i : Nat) : runTo p (byV b) i = i + ((b.drop i).takeWhile q).length := by
  unfold runTo byV
  rw [← List.map_drop, List.takeWhile_map, List.length_map]
  congr 3
  funext c
  exact h c
theorem take_while_len {α : Type} (q : α → Bool) : ∀ l : List α, l.take (l.takeWhile q).length = l.takeWhile q
  | [] => rfl
  | x :: r => by
    rw [List.takeWhile_cons]
    split
    · rw [List.length_cons, List.take_succ_cons, take_while_len q r]
    · rfl
/-- text[i : i + n] -/
theorem cut_byte (b : Bytes) (i n : Nat) (h : i + n ≤ b.length) : cutV ((byV b).map V.int) (some (i : Int)) (some ((i + n : Nat) : Int)) = (byV ((b.drop i).take n)).map V.int := by
  unfold cutV
  rw [HT.sIx_nat, HT.sIx_nat, List.length_map, byV_len, Nat.min_eq_left (by omega : i ≤ b.length), Nat.min_eq_left h, show i + n - i = n by omega]
  unfold byV
  rw [List.map_map, List.map_map, List.map_take, List.map_drop]
theorem takeWhile_le {α : Type} (q : α → Bool) : ∀ l : List α, (l.takeWhile q).length ≤ l.length
  | [] => Nat.le_refl _
  | x :: r => by
    rw [List.takeWhile_cons]
    split
    · have := takeWhile_le q r
      simp only [List.length_cons]; omega
    · simp
/-! ### tokens as objects -/
def wordsL : List String := ["columns", "row", "ask", "times"]
theorem reserved_eq : RESERVED = wordsL.map word := rfl
def TokV (H : Hp) (f : Str) (v : V) : STok → Prop
  | .name b => (∃ s ∈ wordsL, b = word s ∧ f = "word" ∧ v = .str (Str.ofString s)) ∨ (RESERVED.contains b = false ∧ f = "name" ∧ ∃ t, v = .ref t ∧ H t = some (.tup ((byV b).map V.int)))
  | .num n => f = "number" ∧ v = .int n
  | .sign c => f = "sign" ∧ v = .str ⟨#[c]⟩
  | .last => False
def TokAt (K : PySem.W.Frag) (H : Hp) (p : Addr) (b e : Nat) (tok : STok) : Prop := ∃ (dx : Addr) (f : Str) (v : V), H p = some (.ins (He.ga K "Token") dx (tokF (.int b) (.int e) (.str f) v)) ∧ TokV H f v tok
theorem TokV.same {G H : Hp} (s : Same G H) {f : Str} {v : V} : ∀ {tok : STok}, TokV G f v tok → TokV H f v tok
  | .name _, .inl h => .inl h
  | .name _, .inr ⟨h1, h2, t, h3, h4⟩ => .inr ⟨h1, h2, t, h3, s _ _ h4⟩
  | .num _, h => h
  | .sign _, h => h
theorem TokAt.same {K : PySem.W.Frag} {G H : Hp} (s : Same G H) {p : Addr} {b e : Nat} {tok : STok} (h : TokAt K G p b e tok) : TokAt K H p b e tok := by
  obtain ⟨dx, f, v, h1, h2⟩ := h
  exact ⟨dx, f, v, s _ _ h1, h2.same s⟩
/-- Token(..) is made -/
theorem token_made {H : Hp} {b e f v : V} {Q : VK} {E : XK} (h : ∀ (H' : Hp) (x : Addr), Same H H' → H x = none → (∃ dx, H' x = some (.ins (He.ga K "Token") dx (tokF b e f v))) → Q (.ref x) H') :
    ∀ x dx, H x = none → H dx = none → dx ≠ x → sp_Token_init K (.ref x :: ([b, e, f, v] ++ [])) (upd (upd H dx (.own x)) x (.ins (He.ga K "Token") dx [])) (fun w H2 => w = .non ∧ Q (.ref x) H2) E := fun x dx nx nd ne => by
  refine ⟨x, dx, b, e, f, v, rfl, upd_same, rfl, ?_⟩
  rw [upd_upd]
  refine h _ x (fun c u q => ?_) nx ⟨dx, upd_same⟩
  rw [upd_ne (ne_of_none q nx), upd_ne (ne_of_none q nd)]
  exact q
/-- the token at a place, or fault 2 there -/
def sp_tokG (K : PySem.W.Frag) (g : UInt8 → Prop) : Sp := fun vs H Q E => ∃ (a : Addr) (b : Bytes) (i : Nat) (c : UInt8), vs = [.ref a, .int i] ∧ SqL K H a ((byV b).map V.int) ∧ b[i]? = some c ∧ g c ∧
  (∀ tok n, token (b.drop i) = some (tok, n) → ∀ (H' : Hp) (p : Addr), Same H H' → H p = none → TokAt K (newer H H') p i (i + n) tok → Q (.ref p) H') ∧ (token (b.drop i) = none → Flt K [] H E 2 i)
theorem token_word {b : Bytes} {i : Nat} {c : UInt8} (h : b[i]? = some c) (hc : isLetter c = true) :
    token (b.drop i) = let w := (b.drop i).takeWhile fun c => isLetter c || isDigit c; if 16 < w.length then none else some (.name w, w.length) := by
  obtain ⟨hl, e⟩ := List.getElem?_eq_some_iff.mp h
  rw [List.drop_eq_getElem_cons hl, e]
  show (if isLetter c = true then _ else _) = _
  rw [if_pos hc]
  rfl
theorem sc_word_token : FnScope ["text", "at", "end", "some", "word"] ["text", "at"] (defScope (top 41)) := ⟨rfl, rfl, rfl, by decide +kernel, rfl, by decide +kernel, by decide +kernel⟩
theorem ok_word_token (T : Txt K mg) : Def P w K mg base (L2.CX P w) 3 "word_token" ["text", "at"] (sp_tokG K fun c => isLetter c = true) := by
  obtain ⟨fd, F⟩ := fd_word_token T
  refine Def.mk' F sc_word_token (gl_word_token T) (fun vs H Q E h => by obtain ⟨_, _, _, _, rfl, _⟩ := h; rfl) (fun _ _ _ _ _ _ us hl => match us, hl with | [_, _], _ => rfl) fun cdv A outer s H vs Q E hr h => ?_
  refine ⟨_, pss_cons (ps_set (i := 2) sc_word_token.nd rfl (Or.inl rfl) (Def.call (ok_behind_run T) hr (by decide) (pa_cons (pv 0) (pa_cons (pv 1) (pa_cons pe_bl pa_nil)))))
    (pss_cons (ps_set (i := 3) sc_word_token.nd rfl (Or.inl rfl) (pe_slice sl_list (pv 0) (po_some (pv 1)) (po_some (pv 2))))
    (pss_cons (ps_if (pt_cmpR op_gt (pe_callB call_len_seq (by rfl) (fr_len T) PySem.boot_len (pa_cons (pv 3) pa_nil)) (pe_gi (in_MOST_NAME T)) (nomark _))
      (pss_one (ps_raise rfl (takes_of rfl rfl rfl rfl) (DefE.pmk (ok_Fault_init T) hr (by decide) (pa_cons (pe_gi (in_NO_TOKEN T)) (pa_cons (pv 1) pa_nil)))))
      (pss_nil))
    (pss_cons (ps_for (passes_of rfl) rfl (pi_tup (pe_gr (gl_WORDS T))) (pg_name (i := 4) sc_word_token.nd rfl (Or.inl rfl))
      (pss_one (ps_if (pt_cmpR (op_eqD hr.units) (Def.call (ok_spelled T) hr (by decide) (pa_cons (pv 4) pa_nil)) (pv 3) (nomark _))
        (pss_one (ps_ret (DefC.make (ok_Token_init T) hr (by decide) (pa_cons (pv 1) (pa_cons (pv 2) (pa_cons (pe_gs (st_WORD T)) (pa_cons (pv 4) pa_nil)))))))
        (pss_nil))))
    (pss_one (ps_ret (DefC.make (ok_Token_init T) hr (by decide) (pa_cons (pv 1) (pa_cons (pv 2) (pa_cons (pe_gs (st_NAME T)) (pa_cons (pe_callTy call_tuple_of (by rfl) (fr_tuple T) PyProof.Rows.boot_tuple (pa_cons (pv 3) pa_nil)) pa_nil)))))))))), ?_⟩
  obtain ⟨a, b, i, c, rfl, ha, hc, hl, hq, he⟩ := h
  have hil : i < b.length := (List.getElem?_eq_some_iff.mp hc).1
  rw [token_word hc hl] at hq he
  have er : runTo (runP true) (byV b) i = i + ((b.drop i).takeWhile fun c => isLetter c || isDigit c).length := runTo_byte (fun c => by
    unfold runP
    rw [isLet_byte, isDig_byte, Bool.true_and, Bool.or_comm]) b i
  have hle := takeWhile_le (fun c => isLetter c || isDigit c) (b.drop i)
  rw [List.length_drop] at hle
  have ew := take_while_len (fun c => isLetter c || isDigit c) (b.drop i)
  generalize ((b.drop i).takeWhile fun c => isLetter c || isDigit c) = w' at hq he er hle ew
  refine ⟨_, rfl, _, rfl, _, _, _, true, rfl, ha, ?_⟩
  rw [er]
  refine ⟨_, rfl, _, rfl, i, rfl, _, rfl, ((i + w'.length : Nat) : Int), rfl, a, _, rfl, ha, fun D hD => ?_⟩
  rw [cut_byte b i w'.length (by omega), ew]
  have hsm : Same H (upd H D (.lst ((byV w').map V.int))) := same_new hD
  generalize hH1 : upd H D (.lst ((byV w').map V.int)) = H1 at hsm
  have hD1 : H1 D = some (.lst ((byV w').map V.int)) := by rw [← hH1, upd_same]
  refine ⟨_, rfl, _, _, rfl, .inl (SqL.of hD1), _, _, rfl, rfl, _, rfl, ?_⟩
  rw [List.length_map, byV_len]
  by_cases c16 : (16 : Int) < w'.length
  · refine ifT (decide_eq_true c16) ⟨_, rfl, fault_made fun d hd => ?_⟩
    exact he (if_pos (by omega)) _ d (.of_same (hsm.trans (same_new hd))) upd_same
  · have hq := hq _ _ (if_neg (by omega))
    refine ifF (decide_eq_false c16) ⟨_, rfl, ⟨_, tu_WORDS T H1⟩, for_tup (xs := wordsL.map fun s => V.str (Str.ofString s)) (fun j σ H2 => Same H1 H2 ∧ (∃ v, σ = [some (.ref a), some (.int i), some (.int ((i + w'.length : Nat) : Int)), some (.ref D), v]) ∧ ∀ s ∈ wordsL.take j, w' ≠ word s)
      ⟨Same.refl _, ⟨_, rfl⟩, fun s hs => by cases hs⟩ (fun j σ H2 _ _ => tu_WORDS T H2) ?_ ?_⟩
    · rintro j x σ H2 hx ⟨hs2, ⟨v, rfl⟩, hno⟩
      obtain ⟨s, hs, rfl⟩ : ∃ s, wordsL[j]? = some s ∧ x = V.str (Str.ofString s) := by
        rw [List.getElem?_map] at hx
        cases e : wordsL[j]? with
        | none => rw [e] at hx; cases hx
        | some s => rw [e] at hx; exact ⟨s, rfl, (Option.some.inj hx).symm⟩
      have hmem : s ∈ wordsL := List.mem_of_getElem? hs
      have hcp : cpV (Str.ofString s) = byV (word s) ∧ (Str.ofString s).length ≤ sizeLine := by
        revert hmem
        generalize s = s'
        intro hmem
        simp only [wordsL, List.mem_cons, List.not_mem_nil, or_false] at hmem
        rcases hmem with rfl | rfl | rfl | rfl <;> exact ⟨by decide +kernel, by decide +kernel⟩
      refine ⟨_, rfl, _, rfl, hcp.2, fun p hp => ⟨_, rfl, .list (dI (byV (word s))), .list (dI (byV w')), ?_, ?_, shaped_lst _, shaped_lst _, _, rfl, ?_⟩⟩
      · rw [hcp.1]
        exact .lst (SqL.of upd_same) (dp_ints _)
      · exact .lst (SqL.of (same_new hp _ _ (hs2 _ _ hD1))) (dp_ints _)
      · have hs3 : Same H1 (upd H2 p (.lst ((cpV (Str.ofString s)).map V.int))) := hs2.trans (same_new hp)
        have ee : PyData.eqv (.list (dI (byV (word s)))) (.list (dI (byV w'))) = decide (byV (word s) = byV w') := by
          rw [← eqv_ints]
          rfl
        rw [ee]
        by_cases hw : word s = w'
        · refine ifT (by rw [hw]; simp) ⟨_, rfl, _, rfl, _, rfl, token_made fun H3 x hs4 nx hx => hq H3 x (hsm.trans (hs3.trans hs4)) (hsm.free (hs3.free nx)) ?_⟩
          obtain ⟨dx, hx⟩ := hx
          exact ⟨dx, _, _, newer_of (hsm.free (hs3.free nx)) hx, .inl ⟨s, hmem, hw.symm, rfl, rfl⟩⟩
        · refine ifF (decide_eq_false fun e => hw (byV_inj e)) ⟨hs3, ⟨_, rfl⟩, fun s' hs' => ?_⟩
          rw [List.take_succ, hs] at hs'
          rcases List.mem_append.mp hs' with z | z
          · exact hno s' z
          · rw [show s' = s from by simpa using z]
            exact fun e => hw e.symm
    · rintro σ H2 ⟨hs2, ⟨v, rfl⟩, hno⟩
      have hno : ∀ s ∈ wordsL, w' ≠ word s := fun s hs => hno s (by rw [List.length_map, List.take_length]; exact hs)
      refine ⟨_, rfl, _, rfl, _, rfl, _, _, rfl, .inl ⟨SqL.of (hs2 _ _ hD1), fun t ht => token_made fun H3 x hs4 nx hx => hq H3 x (hsm.trans (hs2.trans ((same_new ht).trans hs4))) (hsm.free (hs2.free ((same_new ht).free nx))) ?_⟩⟩
      obtain ⟨dx, hx⟩ := hx
      refine ⟨dx, _, _, newer_of (hsm.free (hs2.free ((same_new ht).free nx))) hx, .inr ⟨?_, rfl, t, rfl, newer_of (hsm.free (hs2.free ht)) (hs4 _ _ upd_same)⟩⟩
      rw [reserved_eq]
      cases q : (wordsL.map word).contains w' with
      | false => rfl
      | true =>
        rw [List.contains_iff_mem, List.mem_map] at q
        obtain ⟨s, hs, e⟩ := q
        exact absurd e.symm (hno s hs)
end
end Bw
set_option Elab.async false
set_option linter.all false
set_option maxRecDepth 100000
set_option maxHeartbeats 4000000
namespace Bw
open PySem PySem.Spec PyProof.Rows L2
section
variable {P : Program} {w : World} {K : PySem.W.Frag} {mg : Str → Option Value} {base : Heap}
open VamvsBase (PTok Toks Bytes token isLetter isDigit isBlank numberOf decimal word RESERVED lex)
theorem take_succ_of {α : Type} {l : List α} {j : Nat} {x : α} (h : l[j]? = some x) : l.take (j + 1) = l.take j ++ [x] := by
  rw [List.take_succ, h]
  rfl
theorem decimal_step {l : Bytes} {j : Nat} {c : UInt8} (h : l[j]? = some c) : decimal (l.take (j + 1)) = 10 * decimal (l.take j) + (c.toNat - 48) := by
  rw [take_succ_of h]
  unfold decimal
  rw [List.foldl_append]
  rfl
theorem token_num {b : Bytes} {i : Nat} {c : UInt8} (h : b[i]? = some c) (hl : isLetter c = false) (hd : isDigit c = true) :
    token (b.drop i) = (numberOf ((b.drop i).takeWhile isDigit)).map fun n => (.num n, ((b.drop i).takeWhile isDigit).length) := by
  obtain ⟨hl', e⟩ := List.getElem?_eq_some_iff.mp h
  rw [List.drop_eq_getElem_cons hl', e]
  show (if isLetter c = true then _ else if isDigit c = true then _ else _) = _
  rw [hl, if_neg Bool.false_ne_true, if_pos hd]
theorem all_takeWhile {α : Type} (q : α → Bool) : ∀ (l : List α), ∀ x ∈ l.takeWhile q, q x = true
  | [], x, h => by cases h
  | a :: r, x, h => by
    rw [List.takeWhile_cons] at h
    split at h
    · rcases List.mem_cons.mp h with e | e
      · rw [e]; assumption
      · exact all_takeWhile q r x e
    · cases h
theorem isDigit_ge {c : UInt8} (h : isDigit c = true) : 48 ≤ c.toNat := (of_decide_eq_true h).1
theorem sc_number_token : FnScope ["text", "at", "end", "some", "number", "byte"] ["text", "at"] (defScope (top 42)) := ⟨rfl, rfl, rfl, by decide +kernel, rfl, by decide +kernel, by decide +kernel⟩
theorem ok_number_token (T : Txt K mg) : Def P w K mg base (L2.CX P w) 3 "number_token" ["text", "at"] (sp_tokG K fun c => isLetter c = false ∧ isDigit c = true) := by
  obtain ⟨fd, F⟩ := fd_number_token T
  refine Def.mk' F sc_number_token (gl_number_token T) (fun vs H Q E h => by obtain ⟨_, _, _, _, rfl, _⟩ := h; rfl) (fun _ _ _ _ _ _ us hl => match us, hl with | [_, _], _ => rfl) fun cdv A outer s H vs Q E hr h => ?_
  refine ⟨_, pss_cons (ps_set (i := 2) sc_number_token.nd rfl (Or.inl rfl) (Def.call (ok_behind_run T) hr (by decide) (pa_cons (pv 0) (pa_cons (pv 1) (pa_cons pe_bl pa_nil)))))
    (pss_cons (ps_set (i := 3) sc_number_token.nd rfl (Or.inl rfl) (pe_slice sl_list (pv 0) (po_some (pv 1)) (po_some (pv 2))))
    (pss_cons (ps_if (PW.pt (pw_or (pt_cmpR op_gt (pe_callB call_len_seq (by rfl) (fr_len T) PySem.boot_len (pa_cons (pv 3) pa_nil)) pe_int (nomark _)) (pw_or1 (PW.pt (pw_and (pt_cmpR op_gt (pe_callB call_len_seq (by rfl) (fr_len T) PySem.boot_len (pa_cons (pv 3) pa_nil)) pe_int (nomark _)) (pw_and1 (pt_cmpR op_eq (pe_ix ix_list (pv 3) pe_int (fun _ _ => rfl)) pe_int (nomark _))))))))
      (pss_one (ps_raise rfl (takes_of rfl rfl rfl rfl) (DefE.pmk (ok_Fault_init T) hr (by decide) (pa_cons (pe_gi (in_NO_TOKEN T)) (pa_cons (pv 1) pa_nil)))))
      (pss_nil))
    (pss_cons (ps_set (i := 4) sc_number_token.nd rfl (Or.inl rfl) pe_int)
    (pss_cons (ps_for (passes_of rfl) rfl (pi_list (pv 3)) (pg_name (i := 5) sc_number_token.nd rfl (Or.inl rfl))
      (pss_one (ps_set (i := 4) sc_number_token.nd rfl (Or.inl rfl) (pe_op op_sub (pe_op op_add (pe_op op_mul pe_int (pv 4)) (pv 5)) pe_int))))
    (pss_cons (ps_if (pt_cmpR op_gt (pv 4) (pe_gi (in_MOST_NUMBER T)) (nomark _))
      (pss_one (ps_raise rfl (takes_of rfl rfl rfl rfl) (DefE.pmk (ok_Fault_init T) hr (by decide) (pa_cons (pe_gi (in_NO_TOKEN T)) (pa_cons (pv 1) pa_nil)))))
      (pss_nil))
    (pss_one (ps_ret (DefC.make (ok_Token_init T) hr (by decide) (pa_cons (pv 1) (pa_cons (pv 2) (pa_cons (pe_gs (st_NUMBER T)) (pa_cons (pv 4) pa_nil)))))))))))), ?_⟩
  obtain ⟨a, b, i, c, rfl, ha, hc, ⟨hnl, hdg⟩, hq, he⟩ := h
  have hil : i < b.length := (List.getElem?_eq_some_iff.mp hc).1
  rw [token_num hc hnl hdg] at hq he
  have er : runTo (runP false) (byV b) i = i + ((b.drop i).takeWhile isDigit).length := runTo_byte (fun c => by
    unfold runP
    rw [isDig_byte, Bool.false_and, Bool.or_false]) b i
  have hle := takeWhile_le isDigit (b.drop i)
  rw [List.length_drop] at hle
  have ew := take_while_len isDigit (b.drop i)
  have hall := all_takeWhile isDigit (b.drop i)
  have hne : ∃ r, (b.drop i).takeWhile isDigit = c :: r := by
    obtain ⟨hl', e⟩ := List.getElem?_eq_some_iff.mp hc
    rw [List.drop_eq_getElem_cons hl', e, List.takeWhile_cons_of_pos hdg]
    exact ⟨_, rfl⟩
  generalize ((b.drop i).takeWhile isDigit) = w' at hq he er hle ew hall hne
  obtain ⟨r0, hw0⟩ := hne
  refine ⟨_, rfl, _, rfl, _, _, _, false, rfl, ha, ?_⟩
  rw [er]
  refine ⟨_, rfl, _, rfl, i, rfl, _, rfl, ((i + w'.length : Nat) : Int), rfl, a, _, rfl, ha, fun D hD => ?_⟩
  rw [cut_byte b i w'.length (by omega), ew]
  have hsm : Same H (upd H D (.lst ((byV w').map V.int))) := same_new hD
  generalize hH1 : upd H D (.lst ((byV w').map V.int)) = H1 at hsm
  have hD1 : H1 D = some (.lst ((byV w').map V.int)) := by rw [← hH1, upd_same]
  have fail : numberOf w' = none → ∃ v, [some (V.ref a), some (V.int (i : Int)), some (V.int ((i + w'.length : Nat) : Int)), some (V.ref D), none, none][1]? = some (some v) ∧ ([V.int 2, v] : List V).length ≤ 1000 ∧ ∀ a, H1 a = none → sp_Fault_init K (.ref a :: ([V.int 2, v] ++ [])) (upd H1 a (exo a (He.ga K "Fault") none))
      (fun v H2 => v = .non ∧ ∃ (d : Addr) (fs : List (Str × V)), H2 a = some (exo a (He.ga K "Fault") (some d)) ∧ H2 d = some (exd d fs) ∧ H1 d = none ∧ E (.ref (He.ga K "Fault")) (some d) (upd (del H2 a) d (.xd fs))) (fun _ _ _ => False) := fun hz =>
    ⟨_, rfl, fault_made fun d hd => he (by rw [hz]; rfl) _ d (.of_same (hsm.trans (same_new hd))) upd_same⟩
  have hneq : w' ≠ [] := by rw [hw0]; simp
  refine ⟨_, rfl, _, _, rfl, .inl (SqL.of hD1), _, _, rfl, rfl, _, rfl, ?_⟩
  rw [List.length_map, byV_len]
  have rest : ¬ 10 < w'.length → ¬ (1 < w'.length ∧ w'.head? = some 48) → tSeq (tAsg (tC (.int 0)) (gName 4))
      (tSeq (tFor (iList K (tVar 3)) (gName 5) (tAsg (tOp (rI0 fun i j => V.int (i - j)) (tOp (rI0 fun i j => V.int (i + j)) (tOp (rI CMul fun i j => V.int (i * j)) (tC (.int 10)) (tVar 4)) (tVar 5)) (tC (.int 48))) (gName 4)))
        (tSeq (tIfS (tTest (tOp (rI0 fun i j => V.bl (decide (j < i))) (tVar 4) (tC (.int 1000000000)))) (fun _ σ H => tMkO (He.ga K "Fault") (sp_Fault_init K) [] (tCons (tC (.int 2)) (tCons (tVar 1) tNil)) σ H fun cls d H' => E cls d H') tNext)
          (tRet (tMake (He.ga K "Token") (sp_Token_init K) [] E0 (tCons (tVar 1) (tCons (tVar 2) (tCons (tC (.str "number")) (tCons (tVar 4) tNil))))))))
      { nx := fun _ H' => Q .non H', rt := Q } [some (V.ref a), some (V.int (i : Int)), some (V.int ((i + w'.length : Nat) : Int)), some (V.ref D), none, none] H1 := fun c1 c2 => by
    refine ⟨_, rfl, _, rfl, ⟨_, SqL.of hD1⟩, for_list (xs := (byV w').map V.int) (fun j σ H2 => H2 = H1 ∧ ∃ v, σ = [some (.ref a), some (.int (i : Int)), some (.int ((i + w'.length : Nat) : Int)), some (.ref D), some (.int (decimal (w'.take j) : Nat)), v])
      ⟨rfl, none, rfl⟩ (fun j σ H2 _ ⟨e, _⟩ => by rw [e]; exact SqL.of hD1) ?_ ?_⟩
    · rintro j x σ H2 hx ⟨rfl, v, rfl⟩
      obtain ⟨d, hd, rfl⟩ : ∃ d, w'[j]? = some d ∧ x = V.int (d.toNat : Int) := by
        unfold byV at hx
        rw [List.map_map, List.getElem?_map] at hx
        cases e : w'[j]? with
        | none => rw [e] at hx; cases hx
        | some s => rw [e] at hx; exact ⟨s, rfl, (Option.some.inj hx).symm⟩
      have hge := isDigit_ge (hall d (List.mem_of_getElem? hd))
      refine ⟨_, rfl, _, _, rfl, rfl, .inl ⟨by decide, by decide⟩, _, rfl, _, _, rfl, rfl, _, _, rfl, rfl, rfl, some (.int (d.toNat : Int)), ?_⟩
      rw [decimal_step hd]
      have e : (10 : Int) * ((decimal (w'.take j) : Nat) : Int) + (d.toNat : Int) - 48 = ((10 * decimal (w'.take j) + (d.toNat - 48) : Nat) : Int) := by omega
      rw [← e]
      rfl
    · rintro σ H2 ⟨rfl, v, rfl⟩
      rw [List.length_map, byV_len, List.take_length]
      refine ⟨_, rfl, _, _, rfl, rfl, _, rfl, ?_⟩
      by_cases c3 : (1000000000 : Int) < (decimal w' : Nat)
      · refine ifT (decide_eq_true c3) ⟨_, rfl, fault_made fun d hd => he ?_ _ d (.of_same (hsm.trans (same_new hd))) upd_same⟩
        unfold numberOf
        rw [if_pos (.inr (.inr (.inr (by show 1000000000 < decimal w'; omega))))]
        rfl
      · have hn : numberOf w' = some (decimal w') := by
          unfold numberOf
          refine if_neg ?_
          rintro (h | h | h | h)
          · exact hneq h
          · exact c1 h
          · exact c2 h
          · exact c3 (by have : 1000000000 < decimal w' := h; omega)
        refine ifF (decide_eq_false c3) ⟨_, rfl, _, rfl, _, rfl, token_made fun H3 x hs4 nx hx => hq (.num (decimal w')) w'.length (by rw [hn]; rfl) H3 x (hsm.trans hs4) (hsm.free nx) ?_⟩
        obtain ⟨dx, hx⟩ := hx
        exact ⟨dx, _, _, newer_of (hsm.free nx) hx, rfl, rfl⟩
  by_cases c1 : (10 : Int) < w'.length
  · refine ifT (decide_eq_true c1) (ifT rfl (fail ?_))
    unfold numberOf
    exact if_pos (.inr (.inl (by omega)))
  · refine ifF (decide_eq_false c1) ⟨_, rfl, _, _, rfl, .inl (SqL.of hD1), _, _, rfl, rfl, _, rfl, ?_⟩
    rw [List.length_map, byV_len]
    by_cases c2 : (1 : Int) < w'.length
    · refine ifT (decide_eq_true c2) ⟨_, rfl, _, _, _, _, rfl, rfl, SqL.of hD1, atI_nat (j := 0) (by rw [hw0]; rfl), rfl, _, rfl, ?_⟩
      by_cases c4 : c = 48
      · refine ifT (by rw [c4]; decide) (fail ?_)
        unfold numberOf
        exact if_pos (.inr (.inr (.inl ⟨by omega, by rw [hw0, c4]; rfl⟩)))
      · have e4 : decide (V.int ((c.toNat : Nat) : Int) = V.int 48) = false := by
          rw [decide_eq_false]
          intro e
          have e5 : ((c.toNat : Nat) : Int) = 48 := V.int.inj e
          exact c4 (UInt8.toNat_inj.mp (by show c.toNat = 48; omega))
        refine ifF e4 (rest (by omega) fun ⟨_, z⟩ => c4 ?_)
        rw [hw0] at z
        exact Option.some.inj z
    · exact ifF (decide_eq_false c2) (ifF rfl (rest (by omega) fun ⟨z, _⟩ => c2 (by omega)))
end
end Bw
set_option Elab.async false
set_option linter.all false
set_option maxRecDepth 100000
set_option maxHeartbeats 4000000
namespace Bw
open PySem PySem.Spec PyProof.Rows L2
section
variable {P : Program} {w : World} {K : PySem.W.Frag} {mg : Str → Option Value} {base : Heap}
open VamvsBase (PTok Toks Bytes token isLetter isDigit isBlank numberOf decimal word RESERVED lex)
theorem token_sign {b : Bytes} {i : Nat} {c : UInt8} (h : b[i]? = some c) (hl : isLetter c = false) (hd : isDigit c = false) :
    token (b.drop i) = if VamvsBase.SIGNS.contains c = true then some (.sign c.toNat, 1) else none := by
  obtain ⟨hl', e⟩ := List.getElem?_eq_some_iff.mp h
  rw [List.drop_eq_getElem_cons hl', e]
  show (if isLetter c = true then _ else if isDigit c = true then _ else _) = _
  rw [hl, hd, if_neg Bool.false_ne_true, if_neg Bool.false_ne_true]
theorem signs_cps : (Str.ofString ",:;-").cps = #[44, 58, 59, 45] := by decide +kernel
theorem sc_sign_token : FnScope ["text", "at", "sign"] ["text", "at"] (defScope (top 43)) := ⟨rfl, rfl, rfl, by decide +kernel, rfl, by decide +kernel, by decide +kernel⟩
theorem ok_sign_token (T : Txt K mg) : Def P w K mg base (L2.CX P w) 3 "sign_token" ["text", "at"] (sp_tokG K fun c => isLetter c = false ∧ isDigit c = false) := by
  obtain ⟨fd, F⟩ := fd_sign_token T
  refine Def.mk' F sc_sign_token (gl_sign_token T) (fun vs H Q E h => by obtain ⟨_, _, _, _, rfl, _⟩ := h; rfl) (fun _ _ _ _ _ _ us hl => match us, hl with | [_, _], _ => rfl) fun cdv A outer s H vs Q E hr h => ?_
  refine ⟨_, pss_cons (ps_for (passes_of rfl) rfl (pi_str (pe_gs (st_SIGNS T))) (pg_name (i := 2) sc_sign_token.nd rfl (Or.inl rfl))
      (pss_one (ps_if (pt_cmpR op_eq (pe_callB call_ord (by rfl) (fr_ord T) PyProof.Rows.boot_ord (pa_cons (pv 2) pa_nil)) (pe_ix ix_list (pv 0) (pv 1) (fun _ _ => rfl)) (nomark _))
        (pss_one (ps_ret (DefC.make (ok_Token_init T) hr (by decide) (pa_cons (pv 1) (pa_cons (pe_op op_add (pv 1) pe_int) (pa_cons (pe_gs (st_SIGN T)) (pa_cons (pv 2) pa_nil)))))))
        (pss_nil))))
    (pss_one (ps_raise rfl (takes_of rfl rfl rfl rfl) (DefE.pmk (ok_Fault_init T) hr (by decide) (pa_cons (pe_gi (in_NO_TOKEN T)) (pa_cons (pv 1) pa_nil))))), ?_⟩
  obtain ⟨a, b, i, c, rfl, ha, hc, ⟨hnl, hdg⟩, hq, he⟩ := h
  have hil : i < b.length := (List.getElem?_eq_some_iff.mp hc).1
  rw [token_sign hc hnl hdg] at hq he
  refine ⟨_, rfl, for_it (walk_str (z := ",:;-")) (fun j σ H2 => H2 = H ∧ (∃ v, σ = [some (.ref a), some (.int (i : Int)), v]) ∧ ∀ x ∈ ([44, 58, 59, 45] : List Nat).take j, x ≠ c.toNat) ⟨rfl, ⟨none, rfl⟩, fun x hx => by cases hx⟩ (fun _ _ _ _ _ => trivial) ?_ ?_⟩
  · rintro j x σ H1 H2 hj ⟨rfl, ⟨v, rfl⟩, hno⟩ ⟨rfl, z, hz, rfl⟩
    have hz : ([44, 58, 59, 45] : List Nat)[j]? = some z := by
      have e : (Str.ofString ",:;-").cps[j]? = some z := hz
      rw [signs_cps, ← Array.getElem?_toList] at e
      exact e
    refine ⟨_, rfl, _, rfl, rfl, _, rfl, _, rfl, _, _, _, _, rfl, rfl, ha, atI_map (byV_get hc), rfl, _, rfl, ?_⟩
    by_cases e : z = c.toNat
    · have hin : VamvsBase.SIGNS.contains c = true := by
        have hm := List.mem_of_getElem? hz
        rw [List.contains_iff_mem]
        simp only [List.mem_cons, List.not_mem_nil, or_false] at hm
        simp only [VamvsBase.SIGNS, List.mem_cons, List.not_mem_nil, or_false]
        rcases hm with h | h | h | h
        · exact .inl (UInt8.toNat_inj.mp (by rw [← e, h]; rfl))
        · exact .inr (.inl (UInt8.toNat_inj.mp (by rw [← e, h]; rfl)))
        · exact .inr (.inr (.inl (UInt8.toNat_inj.mp (by rw [← e, h]; rfl))))
        · exact .inr (.inr (.inr (UInt8.toNat_inj.mp (by rw [← e, h]; rfl))))
      refine ifT (by rw [e]; exact decide_eq_true rfl) ⟨_, rfl, _, rfl, _, _, rfl, rfl, _, rfl, token_made fun H3 x hs nx hx => hq _ _ (if_pos hin) H3 x hs nx ?_⟩
      obtain ⟨dx, hx⟩ := hx
      exact ⟨dx, _, _, newer_of nx hx, rfl, by rw [e]⟩
    · refine ifF (decide_eq_false fun q => e ?_) ⟨rfl, ⟨_, rfl⟩, fun x hx => ?_⟩
      · have q' : ((z : Nat) : Int) = (c.toNat : Int) := V.int.inj q
        omega
      · rw [take_succ_of hz] at hx
        rcases List.mem_append.mp hx with h | h
        · exact hno x h
        · rw [show x = z from by simpa using h]
          exact e
  · rintro σ H1 ⟨rfl, ⟨v, rfl⟩, hno⟩
    have hno : ∀ x ∈ ([44, 58, 59, 45] : List Nat), x ≠ c.toNat := fun x hx => hno x (by rw [signs_cps]; exact hx)
    have hin : ¬ VamvsBase.SIGNS.contains c = true := by
      intro h
      rw [List.contains_iff_mem] at h
      simp only [VamvsBase.SIGNS, List.mem_cons, List.not_mem_nil, or_false] at h
      rcases h with rfl | rfl | rfl | rfl
      · exact hno 44 (by simp) rfl
      · exact hno 58 (by simp) rfl
      · exact hno 59 (by simp) rfl
      · exact hno 45 (by simp) rfl
    exact ⟨_, rfl, fault_made fun d hd => he (if_neg hin) _ d (.of_same (same_new hd)) upd_same⟩
theorem sc_token_at : FnScope ["text", "at"] ["text", "at"] (defScope (top 44)) := ⟨rfl, rfl, rfl, by decide +kernel, rfl, by decide +kernel, by decide +kernel⟩
theorem ok_token_at (T : Txt K mg) : Def P w K mg base (L2.CX P w) 4 "token_at" ["text", "at"] (sp_tokG K fun _ => True) := by
  obtain ⟨fd, F⟩ := fd_token_at T
  refine Def.mk' F sc_token_at (gl_token_at T) (fun vs H Q E h => by obtain ⟨_, _, _, _, rfl, _⟩ := h; rfl) (fun _ _ _ _ _ _ us hl => match us, hl with | [_, _], _ => rfl) fun cdv A outer s H vs Q E hr h => ?_
  refine ⟨_, pss_cons (ps_if (pt_val (Def.call (ok_is_letter T) hr (by decide) (pa_cons (pe_ix ix_list (pv 0) (pv 1) (fun _ _ => rfl)) pa_nil)))
      (pss_one (ps_ret (Def.callX (ok_word_token T) hr (by decide) (takes_of rfl rfl rfl rfl) (pa_cons (pv 0) (pa_cons (pv 1) pa_nil)))))
      (pss_nil))
    (pss_cons (ps_if (pt_val (Def.call (ok_is_digit T) hr (by decide) (pa_cons (pe_ix ix_list (pv 0) (pv 1) (fun _ _ => rfl)) pa_nil)))
      (pss_one (ps_ret (Def.callX (ok_number_token T) hr (by decide) (takes_of rfl rfl rfl rfl) (pa_cons (pv 0) (pa_cons (pv 1) pa_nil)))))
      (pss_nil))
    (pss_one (ps_ret (Def.callX (ok_sign_token T) hr (by decide) (takes_of rfl rfl rfl rfl) (pa_cons (pv 0) (pa_cons (pv 1) pa_nil)))))), ?_⟩
  obtain ⟨a, b, i, c, rfl, ha, hc, _, hq, he⟩ := h
  refine ⟨_, rfl, _, rfl, _, _, _, _, rfl, rfl, ha, atI_map (byV_get hc), _, rfl, _, rfl, ?_⟩
  rw [isLet_byte]
  cases e1 : isLetter c with
  | true => exact ifT rfl ⟨_, rfl, _, rfl, a, b, i, c, rfl, ha, hc, e1, hq, he⟩
  | false =>
    refine ifF rfl ⟨_, rfl, _, rfl, _, _, _, _, rfl, rfl, ha, atI_map (byV_get hc), _, rfl, _, rfl, ?_⟩
    rw [isDig_byte]
    cases e2 : isDigit c with
    | true => exact ifT rfl ⟨_, rfl, _, rfl, a, b, i, c, rfl, ha, hc, ⟨e1, e2⟩, hq, he⟩
    | false => exact ifF rfl ⟨_, rfl, _, rfl, a, b, i, c, rfl, ha, hc, ⟨e1, e2⟩, hq, he⟩
/-! ### all tokens -/
def TA2 (K : PySem.W.Frag) (H : Hp) : List Addr → List PTok → Prop
  | [], [] => True
  | a :: r, t :: l => (∃ e, TokAt K H a t.place e t.tok) ∧ TA2 K H r l
  | _, _ => False
/-- the tokens at these places, and behind them the end -/
def TokRest (K : PySem.W.Frag) (H : Hp) : List Addr → Nat → Toks → Prop
  | [], n, l => l = [⟨n, .last⟩]
  | a :: r, n, l => ∃ t l', l = t :: l' ∧ (∃ e, TokAt K H a t.place e t.tok) ∧ TokRest K H r n l'
theorem TA2.same {K : PySem.W.Frag} {G H : Hp} (s : Same G H) : ∀ {as : List Addr} {l : List PTok}, TA2 K G as l → TA2 K H as l
  | [], [], _ => trivial
  | _ :: _, _ :: _, ⟨⟨e, h⟩, r⟩ => ⟨⟨e, h.same s⟩, TA2.same s r⟩
theorem TA2.snoc {K : PySem.W.Frag} {H : Hp} {p : Addr} {t : PTok} {e : Nat} (h : TokAt K H p t.place e t.tok) : ∀ {as : List Addr} {l : List PTok}, TA2 K H as l → TA2 K H (as ++ [p]) (l ++ [t])
  | [], [], _ => ⟨⟨e, h⟩, trivial⟩
  | _ :: _, _ :: _, ⟨x, r⟩ => ⟨x, TA2.snoc h r⟩
theorem TA2.rest {K : PySem.W.Frag} {H : Hp} {n : Nat} : ∀ {as : List Addr} {l : List PTok}, TA2 K H as l → TokRest K H as n (l ++ [⟨n, .last⟩])
  | [], [], _ => rfl
  | _ :: _, _ :: _, ⟨x, r⟩ => ⟨_, _, rfl, x, TA2.rest r⟩
theorem TokRest.same {K : PySem.W.Frag} {G H : Hp} (s : Same G H) : ∀ {as : List Addr} {n : Nat} {l : Toks}, TokRest K G as n l → TokRest K H as n l
  | [], _, _, h => h
  | _ :: _, _, _, ⟨t, l', h1, ⟨e, h2⟩, h3⟩ => ⟨t, l', h1, ⟨e, h2.same s⟩, TokRest.same s h3⟩
/-- a list is written: tokens stand -/
theorem TokV.put {H : Hp} {D : Addr} {xs ys : List V} (hD : H D = some (.lst xs)) {f : Str} {v : V} : ∀ {tok : STok}, TokV H f v tok → TokV (upd H D (.lst ys)) f v tok
  | .name _, .inl h => .inl h
  | .name _, .inr ⟨h1, h2, t, h3, h4⟩ => .inr ⟨h1, h2, t, h3, by rw [upd_ne (ne_of h4 hD (by intro z; cases z))]; exact h4⟩
  | .num _, h => h
  | .sign _, h => h
theorem TA2.put {K : PySem.W.Frag} {H : Hp} {D : Addr} {xs ys : List V} (hD : H D = some (.lst xs)) : ∀ {as : List Addr} {l : List PTok}, TA2 K H as l → TA2 K (upd H D (.lst ys)) as l
  | [], [], _ => trivial
  | _ :: _, _ :: _, ⟨⟨e, dx, f, v, h1, h2⟩, r⟩ => ⟨⟨e, dx, f, v, by rw [upd_ne (ne_of h1 hD (by intro z; cases z))]; exact h1, h2.put hD⟩, TA2.put hD r⟩
theorem except_map {A B C : Type} (f : A → B) (g : B → C) (x : Except VamvsBase.Fault A) : (x.map f).map g = x.map fun a => g (f a) := by
  cases x <;> rfl
theorem drop_takeWhile {α : Type} (q : α → Bool) : ∀ l : List α, l.drop (l.takeWhile q).length = l.dropWhile q
  | [] => rfl
  | x :: r => by
    rw [List.takeWhile_cons, List.dropWhile_cons]
    split
    · rw [List.length_cons, List.drop_succ_cons, drop_takeWhile q r]
    · rfl
theorem tok_ends {b e f v : V} : (tokF b e f v).lookup ("ends" : Str) = some e := by kernel_rfl
theorem tok_begins {b e f v : V} : (tokF b e f v).lookup ("begins" : Str) = some b := by kernel_rfl
theorem tok_form {b e f v : V} : (tokF b e f v).lookup ("form" : Str) = some f := by kernel_rfl
theorem tok_told {b e f v : V} : (tokF b e f v).lookup ("told" : Str) = some v := by kernel_rfl
theorem token_len {l : Bytes} {tok : STok} {k : Nat} (h : token l = some (tok, k)) : 0 < k ∧ k ≤ l.length := by
  cases l with
  | nil => cases h
  | cons c r =>
    have h : (if isLetter c = true then (let w := (c :: r).takeWhile fun c => isLetter c || isDigit c; if 16 < w.length then none else some (.name w, w.length))
      else if isDigit c = true then (numberOf ((c :: r).takeWhile isDigit)).map fun n => (.num n, ((c :: r).takeWhile isDigit).length)
      else if VamvsBase.SIGNS.contains c = true then some (.sign c.toNat, 1) else none) = some (tok, k) := h
    split at h
    · rename_i hl
      dsimp only at h
      split at h
      · cases h
      · injection h with h
        injection h with _ h
        rw [← h]
        exact ⟨by rw [List.takeWhile_cons_of_pos (by simp [hl])]; simp, takeWhile_le _ _⟩
    · split at h
      · rename_i hd
        cases e : numberOf ((c :: r).takeWhile isDigit) with
        | none => rw [e] at h; cases h
        | some n =>
          rw [e] at h
          injection h with h
          injection h with _ h
          rw [← h]
          exact ⟨by rw [List.takeWhile_cons_of_pos hd]; simp, takeWhile_le _ _⟩
      · split at h
        · injection h with h
          injection h with _ h
          rw [← h]
          exact ⟨by decide, by simp⟩
        · cases h
def sp_tokens_of (K : PySem.W.Frag) : Sp := fun vs H Q E => ∃ (a : Addr) (b : Bytes), vs = [.ref a] ∧ SqL K H a ((byV b).map V.int) ∧ b.length ≤ 10000 ∧
  (∀ l, lex (b.length + 1) 0 b = .ok l → ∀ (H' : Hp) (p : Addr) (ts : List Addr), Same H H' → H p = none → H' p = some (.lst (ts.map V.ref)) → TokRest K (newer H H') ts b.length l → Q (.ref p) H') ∧
  (∀ f, lex (b.length + 1) 0 b = .error f → Flt K [] H E f.code f.place)
/-- what the loop of tokens_of holds -/
structure TokInv (K : PySem.W.Frag) (H : Hp) (b : Bytes) (D : Addr) (m : Nat) (σ : L2.St) (H2 : Hp) (a : Addr) (j : Nat) (ts : List Addr) (acc : List PTok) (n : Nat) : Prop where
  meas : m = b.length - j
  le : j ≤ b.length
  fuel : b.length - j < n
  st : σ = [some (.ref a), some (.ref D), some (.int (j : Int))]
  lst : H2 D = some (.lst (ts.map V.ref))
  few : ts.length ≤ j
  same : Same H H2
  toks : TA2 K (newer H H2) ts acc
  eq : lex (b.length + 1) 0 b = (lex n j (b.drop j)).map fun l => acc ++ l
theorem inV_blank (c : UInt8) : inV (.int (c.toNat : Int)) [.int 32, .int 9, .int 10] = isBlank c := by
  unfold isBlank
  have h : ∀ (k : UInt8), eqV (.int (k.toNat : Int)) (.int (c.toNat : Int)) = (c == k) := fun k => by
    show ((k.toNat : Int) == (c.toNat : Int)) = (c == k)
    by_cases e : c = k
    · subst e; simp
    · have e2 : ¬ (k.toNat : Int) = (c.toNat : Int) := fun q => e (UInt8.toNat_inj.mp (by omega))
      rw [beq_eq_false_iff_ne.mpr e2, beq_eq_false_iff_ne.mpr e]
  show (eqV (.int 32) _ || (eqV (.int 9) _ || (eqV (.int 10) _ || false))) = _
  rw [Bool.or_false, ← h 32, ← h 9, ← h 10]
  rfl
theorem sc_tokens_of : FnScope ["text", "found", "at"] ["text"] (defScope (top 45)) := ⟨rfl, rfl, rfl, by decide +kernel, rfl, by decide +kernel, by decide +kernel⟩
theorem ok_tokens_of (T : Txt K mg) : Def P w K mg base (L2.CX P w) 5 "tokens_of" ["text"] (sp_tokens_of K) := by
  obtain ⟨fd, F⟩ := fd_tokens_of T
  refine Def.mk' F sc_tokens_of (gl_tokens_of T) (fun vs H Q E h => by obtain ⟨_, _, rfl, _⟩ := h; rfl) (fun _ _ _ _ _ _ us hl => match us, hl with | [_], _ => rfl) fun cdv A outer s H vs Q E hr h => ?_
  refine ⟨_, pss_cons (ps_set (i := 1) sc_tokens_of.nd rfl (Or.inl rfl) (pe_lst pa_nil))
    (pss_cons (ps_set (i := 2) sc_tokens_of.nd rfl (Or.inl rfl) pe_int)
    (pss_cons (ps_while (passes_of rfl) (pt_cmpR op_lt (pv 2) (pe_callB call_len_seq (by rfl) (fr_len T) PySem.boot_len (pa_cons (pv 0) pa_nil)) (nomark _))
      (pss_one (ps_if (pt_cmpR op_in_seq (pe_ix ix_list (pv 0) (pv 2) (fun _ _ => rfl)) (pe_gr (gl_BLANKS T)) (by rfl))
        (pss_one (ps_set (i := 2) sc_tokens_of.nd rfl (Or.inl rfl) (pe_op op_add (pv 2) pe_int)))
        (pss_one (ps_if (pt_cmpR op_eq (pe_ix ix_list (pv 0) (pv 2) (fun _ _ => rfl)) (pe_gi (in_REMARK T)) (nomark _))
          (pss_one (ps_set (i := 2) sc_tokens_of.nd rfl (Or.inl rfl) (Def.call (ok_behind_remark T) hr (by decide) (pa_cons (pv 0) (pa_cons (pv 2) pa_nil)))))
          (pss_cons (ps_expr (pe_bm PySem.F.plainAttrs_list PySem.F.slot_list_append PySem.F.type_list_append mt_append (pv 1) (pa_cons (Def.callX (ok_token_at T) hr (by decide) (takes_of rfl rfl rfl rfl) (pa_cons (pv 0) (pa_cons (pv 2) pa_nil))) pa_nil)))
          (pss_one (ps_set (i := 2) sc_tokens_of.nd rfl (Or.inl rfl) (pe_fld (pe_ix ix_list (pv 1) (pe_un un_neg pe_int) (fun _ _ => rfl)) rfl)))))))))
    (pss_one (ps_ret (pv 1))))), ?_⟩
  obtain ⟨a, b, rfl, ha, hsz, hq, he⟩ := h
  refine ⟨by show 0 ≤ sizeLine; decide, fun D hD => ?_⟩
  refine ⟨fun m σ H2 => ∃ j ts acc n, TokInv K H b D m σ H2 a j ts acc n, ⟨b.length, 0, [], [], b.length + 1, ⟨rfl, Nat.zero_le _, by omega, rfl, upd_same, Nat.le_refl _, same_new hD, trivial, ?_⟩⟩, ?_⟩
  · show _ = (lex (b.length + 1) 0 b).map _
    cases lex (b.length + 1) 0 b <;> rfl
  · rintro m σ H2 ⟨j, ts, acc, n, I⟩
    obtain ⟨rfl, hle, hn, rfl, hl, hfew, hs, hta, heq⟩ := I
    have ha2 : SqL K H2 a ((byV b).map V.int) := hs.seq ha
    refine ⟨_, rfl, _, rfl, _, _, rfl, .inl ha2, _, _, rfl, rfl, _, rfl, ?_⟩
    rw [List.length_map, byV_len]
    obtain ⟨n, rfl⟩ : ∃ k, n = k + 1 := ⟨n - 1, by omega⟩
    by_cases c : (j : Int) < b.length
    · obtain ⟨x, hx⟩ : ∃ x, b[j]? = some x := ⟨_, List.getElem?_eq_getElem (by omega : j < b.length)⟩
      have hlt : j < b.length := by omega
      have hdrop : b.drop j = x :: b.drop (j + 1) := by
        obtain ⟨h1, h2⟩ := List.getElem?_eq_some_iff.mp hx
        rw [List.drop_eq_getElem_cons h1, h2]
      refine ifT (decide_eq_true c) ⟨_, fun _ _ z => z, _, rfl, _, rfl, _, _, _, _, rfl, rfl, ha2, atI_map (byV_get hx), _, _, rfl, .inr (tu_BLANKS T H2), rfl, rfl, _, rfl, ?_⟩
      rw [if_neg Bool.false_ne_true, inV_blank]
      rw [hdrop] at heq
      cases e1 : isBlank x with
      | true =>
        refine ifT rfl ⟨_, rfl, _, _, rfl, rfl, b.length - (j + 1), by omega, j + 1, ts, acc, n, ⟨rfl, by omega, by omega, rfl, hl, by omega, hs, hta, ?_⟩⟩
        rw [heq]
        show (if isBlank x = true then _ else _ : Except VamvsBase.Fault Toks).map _ = _
        rw [if_pos e1]
      | false =>
        refine ifF rfl ⟨_, rfl, _, rfl, _, _, _, _, rfl, rfl, ha2, atI_map (byV_get hx), rfl, _, rfl, ?_⟩
        by_cases e2 : x = 35
        · subst e2
          refine ifT (by decide) ⟨_, rfl, _, rfl, a, byV b, j, rfl, ha2, ?_⟩
          have er : runTo (fun n => !decide (n = 10)) (byV b) j = j + ((b.drop j).takeWhile (· != 10)).length := runTo_byte (fun c => by
            by_cases e : c = 10
            · subst e; rfl
            · have e3 : ¬ (c.toNat : Int) = 10 := fun q => e (UInt8.toNat_inj.mp (by show c.toNat = 10; omega))
              rw [decide_eq_false e3]
              show true = _
              exact (bne_iff_ne.mpr e).symm) b j
          have hw := takeWhile_le (· != (10 : UInt8)) (b.drop (j + 1))
          rw [List.length_drop] at hw
          have hd2 := drop_takeWhile (· != (10 : UInt8)) (b.drop (j + 1))
          rw [List.drop_drop] at hd2
          rw [hdrop, List.takeWhile_cons_of_pos (by decide), List.length_cons] at er
          generalize hk : ((b.drop (j + 1)).takeWhile (· != 10)).length = k at er hw hd2
          rw [er]
          refine ⟨b.length - (j + (k + 1)), by omega, j + (k + 1), ts, acc, n, ⟨rfl, by omega, by omega, rfl, hl, by omega, hs, hta, ?_⟩⟩
          rw [heq]
          show (if isBlank 35 = true then _ else if ((35 : UInt8) == 35) = true then _ else _ : Except VamvsBase.Fault Toks).map _ = _
          rw [if_neg (by decide), if_pos (by decide), ← hd2, hk]
          rw [show j + 1 + k = j + (k + 1) by omega]
        · have e3 : decide (V.int ((x.toNat : Nat) : Int) = V.int 35) = false := decide_eq_false fun q => e2 (UInt8.toNat_inj.mp (by have q' : ((x.toNat : Nat) : Int) = 35 := V.int.inj q; show x.toNat = 35; omega))
          have eqL : lex (n + 1) j (x :: b.drop (j + 1)) = match token (x :: b.drop (j + 1)) with
              | none => .error ⟨2, j⟩
              | some y => (lex n (j + y.2) ((x :: b.drop (j + 1)).drop y.2)).map fun l => ⟨j, y.1⟩ :: l := by
            show (if isBlank x = true then _ else if (x == 35) = true then _ else _) = _
            rw [e1, if_neg Bool.false_ne_true, if_neg (fun q => e2 (eq_of_beq q))] <;> rfl
          refine ifF e3 ⟨_, rfl, .inl ⟨rfl, _, SqL.of hl⟩, _, rfl, _, rfl, a, b, j, x, rfl, ha2, hx, trivial, fun tok k htok H3 p hs3 hp htk => ?_, fun hno => ?_⟩
          · rw [hdrop] at htok
            rw [eqL, htok] at heq
            have hl3 := hs3 _ _ hl
            have hk : 0 < k ∧ j + k ≤ b.length := by
              obtain ⟨h1, h2⟩ := token_len htok
              rw [List.length_cons, List.length_drop] at h2
              omega
            refine ⟨_, _, _, rfl, rfl, hl3, ?_, ?_⟩
            · rw [List.length_map, sizeLine_eq]
              omega
            · have hpD : p ≠ D := fun z => by rw [z] at hp; rw [hl] at hp; cases hp
              have hs3' : Same (newer H2 H3) (newer H H3) := newer_down hs
              have hl3n : newer H H3 D = some (.lst (ts.map V.ref)) := newer_of hD hl3
              obtain ⟨dx, f, v, hp3, hv⟩ := htk
              have hp4 : (upd H3 D (.lst (ts.map V.ref ++ [.ref p]))) p = some (.ins (He.ga K "Token") dx (tokF (.int (j : Int)) (.int ((j + k : Nat) : Int)) (.str f) v)) := by
                rw [upd_ne hpD]
                exact (newer_some hp3).2
              refine ⟨_, rfl, 1, rfl, _, _, _, _, rfl, rfl, SqL.of upd_same, atI_last _ _, _, _, _, _, _, rfl, hp4, cl_Token T, na_Token_ends T, tok_ends, ?_⟩
              refine ⟨b.length - (j + k), by omega, j + k, ts ++ [p], acc ++ [⟨j, tok⟩], n, ⟨rfl, by omega, by omega, rfl, ?_, ?_, ?_, ?_, ?_⟩⟩
              · rw [upd_same, List.map_append]
                rfl
              · rw [List.length_append, List.length_singleton]
                omega
              · intro c u q
                have q2 := hs3 c u (hs c u q)
                rw [upd_ne (ne_of_none q hD)]
                exact q2
              · rw [newer_put hD]
                exact TA2.snoc (e := j + k) ⟨dx, f, v, by rw [upd_ne hpD]; exact hs3' _ _ hp3, (hv.same hs3').put hl3n⟩ ((hta.same (newer_up hs3)).put hl3n)
              · rw [heq, except_map]
                have e5 : (x :: b.drop (j + 1)).drop k = b.drop (j + k) := by
                  rw [← hdrop, List.drop_drop]
                show (lex n (j + k) ((x :: b.drop (j + 1)).drop k)).map _ = _
                rw [e5]
                congr 1
                funext l
                simp
          · rw [hdrop] at hno
            rw [eqL, hno] at heq
            exact fun H3 d hb hx3 => he ⟨2, j⟩ heq H3 d (.of_same (hs.trans hb.same)) hx3
    · refine ifF (decide_eq_false c) ⟨_, rfl, ?_⟩
      have e6 : j = b.length := by omega
      have e7 : b.drop j = [] := by rw [e6]; exact List.drop_length
      rw [e7] at heq
      have heq : lex (b.length + 1) 0 b = .ok (acc ++ [⟨j, .last⟩]) := heq
      exact hq _ heq H2 D ts hs hD hl (by rw [e6]; exact hta.rest)
end
end Bw
set_option Elab.async false
set_option linter.all false
set_option maxRecDepth 100000
set_option maxHeartbeats 4000000
namespace Bw
open PySem PySem.Spec PyProof.Rows L2
section
variable {P : Program} {w : World} {K : PySem.W.Frag} {mg : Str → Option Value} {base : Heap}
open VamvsBase (PTok Toks Bytes token numberOf decimal word RESERVED lex here next tokEq)
/-! ### the heap without some places -/
def cut (M : List Addr) (H : Hp) : Hp := fun b => if b ∈ M then none else H b
theorem cut_in {M : List Addr} {H : Hp} {b : Addr} (h : b ∈ M) : cut M H b = none := if_pos h
theorem cut_out {M : List Addr} {H : Hp} {b : Addr} (h : b ∉ M) : cut M H b = H b := if_neg h
theorem cut_some {M : List Addr} {H : Hp} {b : Addr} {o : HO} (h : cut M H b = some o) : b ∉ M ∧ H b = some o := by
  unfold cut at h
  split at h
  · cases h
  · exact ⟨by assumption, h⟩
theorem cut_same (M : List Addr) (H : Hp) : Same (cut M H) H := fun _ _ h => (cut_some h).2
theorem cut_but {M N : List Addr} {H H' : Hp} (b : But N H H') (s : ∀ x ∈ N, x ∈ M) : Same (cut M H) (cut M H') := fun c o h => by
  obtain ⟨h1, h2⟩ := cut_some h
  rw [cut_out h1]
  exact b c o h2 fun z => h1 (s c z)
theorem cut_upd {M : List Addr} {H : Hp} {a : Addr} {o : HO} (h : a ∈ M) : cut M (upd H a o) = cut M H := by
  funext b
  unfold cut
  split
  · rfl
  · rename_i hb
    exact upd_ne fun z => hb (by rw [z]; exact h)
/-! ### readers -/
def rdF (tl : Addr) (len i : Nat) : List (Str × V) := [("tokens", .ref tl), ("length", .int len), ("at", .int i)]
theorem rd_tokens {tl : Addr} {len i : Nat} : (rdF tl len i).lookup ("tokens" : Str) = some (.ref tl) := by kernel_rfl
theorem rd_length {tl : Addr} {len i : Nat} : (rdF tl len i).lookup ("length" : Str) = some (.int len) := by kernel_rfl
theorem rd_at {tl : Addr} {len i : Nat} : (rdF tl len i).lookup ("at" : Str) = some (.int i) := by kernel_rfl
theorem rd_put {tl : Addr} {len i j : Nat} : putF "at" (.int (j : Nat)) (rdF tl len i) = rdF tl len j := by kernel_rfl
theorem rd_put1 {tl : Addr} {len i : Nat} : putF "at" (.int ((i : Int) + 1)) (rdF tl len i) = rdF tl len (i + 1) := by kernel_rfl
/-- the reader at r has l still to read; G: what stands for good -/
structure RdX (K : PySem.W.Frag) (G H : Hp) (r : Addr) (l : Toks) (dx tl : Addr) (ts : List Addr) (i len : Nat) : Prop where
  same : Same G H
  nor : G r = none
  ins : H r = some (.ins (He.ga K "Reader") dx (rdF tl len i))
  toks : G tl = some (.lst (ts.map V.ref))
  le : i ≤ ts.length
  rest : TokRest K G (ts.drop i) len l
def RdAt (K : PySem.W.Frag) (G H : Hp) (r : Addr) (l : Toks) : Prop := ∃ dx tl ts i len, RdX K G H r l dx tl ts i len
theorem RdAt.same {K : PySem.W.Frag} {G H : Hp} {r : Addr} {l : Toks} (R : RdAt K G H r l) : Same G H := by
  obtain ⟨_, _, _, _, _, X⟩ := R
  exact X.same
theorem RdAt.up {K : PySem.W.Frag} {G G' H H' : Hp} {r : Addr} {l : Toks} (R : RdAt K G H r l) (h1 : Same G G') (h2 : G' r = none) (h3 : Same G' H') (h4 : ∀ o, H r = some o → H' r = some o) : RdAt K G' H' r l := by
  obtain ⟨dx, tl, ts, i, len, X⟩ := R
  exact ⟨dx, tl, ts, i, len, h3, h2, h4 _ X.ins, h1 _ _ X.toks, X.le, X.rest.same h1⟩
/-- at the end, or at a token -/
theorem RdX.cases {K : PySem.W.Frag} {G H : Hp} {r : Addr} {l : Toks} {dx tl : Addr} {ts : List Addr} {i len : Nat} (X : RdX K G H r l dx tl ts i len) :
    (i = ts.length ∧ l = [⟨len, .last⟩]) ∨ ∃ t l' a e tdx f v, i < ts.length ∧ l = t :: l' ∧ (ts.map V.ref)[i]? = some (.ref a) ∧ G a = some (.ins (He.ga K "Token") tdx (tokF (.int t.place) (.int (e : Nat)) (.str f) v)) ∧ TokV G f v t.tok ∧ TokRest K G (ts.drop (i + 1)) len l' := by
  have hr := X.rest
  by_cases c : i < ts.length
  · rw [List.drop_eq_getElem_cons c] at hr
    obtain ⟨t, l', h1, ⟨e, tdx, f, v, h2, h3⟩, h4⟩ := hr
    exact .inr ⟨t, l', ts[i], e, tdx, f, v, c, h1, by rw [List.getElem?_map, List.getElem?_eq_getElem c]; rfl, h2, h3, h4⟩
  · have e : i = ts.length := by have := X.le; omega
    subst e
    rw [List.drop_length] at hr
    exact .inl ⟨rfl, hr⟩
/-- one token on -/
theorem RdX.step {K : PySem.W.Frag} {G H : Hp} {r : Addr} {l l' : Toks} {dx tl : Addr} {ts : List Addr} {i len : Nat} (X : RdX K G H r l dx tl ts i len) (h : i < ts.length) (h2 : TokRest K G (ts.drop (i + 1)) len l') :
    RdX K G (upd H r (.ins (He.ga K "Reader") dx (rdF tl len (i + 1)))) r l' dx tl ts (i + 1) len :=
  ⟨fun b o e => by rw [upd_ne (ne_of_none e X.nor)]; exact X.same b o e, X.nor, upd_same, X.toks, h, h2⟩
theorem TokV.last {H : Hp} {f : Str} {v : V} {t : STok} (h : TokV H f v t) : t ≠ .last := fun e => by rw [e] at h; exact h
def sp_place_at (K : PySem.W.Frag) : Sp := fun vs H Q _ => ∃ (r : Addr) (G : Hp) (l : Toks), vs = [.ref r] ∧ RdAt K G H r l ∧ Q (.int (here l : Nat)) H
theorem sc_place_at : FnScope ["reader"] ["reader"] (defScope (top 65)) := ⟨rfl, rfl, rfl, by decide +kernel, rfl, by decide +kernel, by decide +kernel⟩
theorem ok_place_at (T : Txt K mg) : Def P w K mg base CX0 1 "place_at" ["reader"] (sp_place_at K) := by
  obtain ⟨fd, F⟩ := fd_place_at T
  refine Def.mk' F sc_place_at (gl_place_at T) (fun vs H Q E h => by obtain ⟨_, _, _, rfl, _⟩ := h; rfl) (fun _ _ _ _ _ _ us hl => match us, hl with | [_], _ => rfl) fun cdv A outer s H vs Q E hr h => ?_
  refine ⟨_, PSs.nox (pss_cons (ps_if (pt_cmpR op_lt (pe_fld (pv 0) rfl) (pe_callB call_len_seq (by rfl) (fr_len T) PySem.boot_len (pa_cons (pe_fld (pv 0) rfl) pa_nil)) (nomark _))
      (pss_one (ps_ret (pe_fld (pe_ix ix_list (pe_fld (pv 0) rfl) (pe_fld (pv 0) rfl) (fun _ _ => rfl)) rfl)))
      (pss_nil))
    (pss_one (ps_ret (pe_fld (pv 0) rfl)))), ?_⟩
  obtain ⟨r, G, l, rfl, ⟨dx, tl, ts, i, len, X⟩, h⟩ := h
  refine ⟨_, rfl, _, _, _, _, _, rfl, X.ins, cl_Reader T, na_Reader_at T, rd_at, _, rfl, _, _, _, _, _, rfl, X.ins, cl_Reader T, na_Reader_tokens T, rd_tokens, _, _, rfl, .inl (SqL.of (X.same _ _ X.toks)), _, _, rfl, rfl, _, rfl, ?_⟩
  rw [List.length_map]
  rcases X.cases with ⟨rfl, rfl⟩ | ⟨t, l', a, e, tdx, f, v, hi, rfl, ha, hG, hv, _⟩
  · exact ifF (decide_eq_false (by omega)) ⟨_, rfl, _, _, _, _, _, rfl, X.ins, cl_Reader T, na_Reader_length T, rd_length, h⟩
  · exact ifT (decide_eq_true (by omega)) ⟨_, rfl, _, _, _, _, _, rfl, X.ins, cl_Reader T, na_Reader_tokens T, rd_tokens, _, rfl, _, _, _, _, _, rfl, X.ins, cl_Reader T, na_Reader_at T, rd_at, _, _, _, _, rfl, rfl, SqL.of (X.same _ _ X.toks), atI_nat ha,
      _, _, _, _, _, rfl, X.same _ _ hG, cl_Token T, na_Token_begins T, tok_begins, h⟩
def sp_fault_if (K : PySem.W.Frag) : Sp := fun vs H Q E => ∃ (r : Addr) (b : Bool) (c : Int) (G : Hp) (l : Toks), vs = [.ref r, .bl b, .int c] ∧ RdAt K G H r l ∧ (b = false → Q .non H) ∧ (b = true → Flt K [] H E c (here l))
theorem sc_fault_if : FnScope ["reader", "asked", "code"] ["reader", "asked", "code"] (defScope (top 66)) := ⟨rfl, rfl, rfl, by decide +kernel, rfl, by decide +kernel, by decide +kernel⟩
theorem ok_fault_if (T : Txt K mg) : Def P w K mg base (L2.CX P w) 3 "fault_if" ["reader", "asked", "code"] (sp_fault_if K) := by
  obtain ⟨fd, F⟩ := fd_fault_if T
  refine Def.mk' F sc_fault_if (gl_fault_if T) (fun vs H Q E h => by obtain ⟨_, _, _, _, _, rfl, _⟩ := h; rfl) (fun _ _ _ _ _ _ us hl => match us, hl with | [_, _, _], _ => rfl) fun cdv A outer s H vs Q E hr h => ?_
  refine ⟨_, pss_one (ps_if (pt_val (pv 1))
      (pss_one (ps_raise rfl (takes_of rfl rfl rfl rfl) (DefE.pmk (ok_Fault_init T) hr (by decide) (pa_cons (pv 2) (pa_cons (Def.call (ok_place_at T) hr (by decide) (pa_cons (pv 0) pa_nil)) pa_nil)))))
      (pss_nil)), ?_⟩
  obtain ⟨r, b, c, G, l, rfl, R, hq, he⟩ := h
  refine ⟨_, rfl, _, rfl, ?_⟩
  cases b with
  | false => exact ifF rfl (hq rfl)
  | true => exact ifT rfl ⟨_, rfl, _, rfl, r, G, l, rfl, R, fault_made fun d hd => he rfl _ d (.of_same (same_new hd)) upd_same⟩
/-- a token's form -/
def formOf : STok → Option Str
  | .name b => if RESERVED.contains b = true then some "word" else some "name"
  | .num _ => some "number"
  | .sign _ => some "sign"
  | .last => none
theorem TokV.form {H : Hp} {f : Str} {v : V} : ∀ {t : STok}, TokV H f v t → formOf t = some f
  | .name b, .inl ⟨s, hs, e1, e2, _⟩ => by
    have hc : RESERVED.contains b = true := by
      rw [List.contains_iff_mem, reserved_eq, e1]
      exact List.mem_map_of_mem hs
    show (if RESERVED.contains b = true then _ else _) = _
    rw [if_pos hc, e2]
  | .name b, .inr ⟨h1, h2, _⟩ => by
    show (if RESERVED.contains b = true then _ else _) = _
    rw [if_neg (by rw [h1]; simp), h2]
  | .num _, ⟨h, _⟩ => by rw [h]; rfl
  | .sign _, ⟨h, _⟩ => by rw [h]; rfl
def headForm (l : Toks) : Option Str := match l with
  | t :: _ => formOf t.tok
  | [] => none
def sp_is_form (K : PySem.W.Frag) : Sp := fun vs H Q _ => ∃ (r : Addr) (f : Str) (G : Hp) (l : Toks), vs = [.ref r, .str f] ∧ RdAt K G H r l ∧ Q (.bl (decide (headForm l = some f))) H
theorem sc_is_form : FnScope ["reader", "form"] ["reader", "form"] (defScope (top 67)) := ⟨rfl, rfl, rfl, by decide +kernel, rfl, by decide +kernel, by decide +kernel⟩
theorem ok_is_form (T : Txt K mg) : Def P w K mg base CX0 1 "is_form" ["reader", "form"] (sp_is_form K) := by
  obtain ⟨fd, F⟩ := fd_is_form T
  refine Def.mk' F sc_is_form (gl_is_form T) (fun vs H Q E h => by obtain ⟨_, _, _, _, rfl, _⟩ := h; rfl) (fun _ _ _ _ _ _ us hl => match us, hl with | [_, _], _ => rfl) fun cdv A outer s H vs Q E hr h => ?_
  refine ⟨_, PSs.nox (pss_one (ps_ret (pe_and (pe_cmpR op_lt (pe_fld (pv 0) rfl) (pe_callB call_len_seq (by rfl) (fr_len T) PySem.boot_len (pa_cons (pe_fld (pv 0) rfl) pa_nil)) (nomark _)) (pe_one (pe_cmpR op_eq (pe_fld (pe_ix ix_list (pe_fld (pv 0) rfl) (pe_fld (pv 0) rfl) (fun _ _ => rfl)) rfl) (pv 1) (nomark _)))))), ?_⟩
  obtain ⟨r, f, G, l, rfl, ⟨dx, tl, ts, i, len, X⟩, h⟩ := h
  refine ⟨_, rfl, _, _, _, _, _, rfl, X.ins, cl_Reader T, na_Reader_at T, rd_at, _, rfl, _, _, _, _, _, rfl, X.ins, cl_Reader T, na_Reader_tokens T, rd_tokens, _, _, rfl, .inl (SqL.of (X.same _ _ X.toks)), _, _, rfl, rfl, _, rfl, ?_⟩
  rw [List.length_map]
  rcases X.cases with ⟨rfl, rfl⟩ | ⟨t, l', a, e, tdx, f', v, hi, rfl, ha, hG, hv, _⟩
  · refine ifF (decide_eq_false (by omega)) ?_
    have e : decide (headForm [⟨len, .last⟩] = some f) = false := decide_eq_false (fun z => by cases z)
    rw [e] at h
    exact h
  · refine ifT (decide_eq_true (by omega)) ⟨_, rfl, _, _, _, _, _, rfl, X.ins, cl_Reader T, na_Reader_tokens T, rd_tokens, _, rfl, _, _, _, _, _, rfl, X.ins, cl_Reader T, na_Reader_at T, rd_at, _, _, _, _, rfl, rfl, SqL.of (X.same _ _ X.toks), atI_nat ha,
      _, _, _, _, _, rfl, X.same _ _ hG, cl_Token T, na_Token_form T, tok_form, _, rfl, rfl, ?_⟩
    have e : decide (headForm (t :: l') = some f) = decide (V.str f' = V.str f) := decide_eq_decide.mpr (by
      show formOf t.tok = some f ↔ _
      rw [hv.form]
      exact ⟨fun z => congrArg V.str (Option.some.inj z), fun z => congrArg some (V.str.inj z)⟩)
    rw [e] at h
    exact h
/-- a written token as the program asks for it -/
def TokLit (f z : Str) (t : STok) : Prop := (∃ s ∈ wordsL, t = .name (word s) ∧ f = "word" ∧ z = Str.ofString s) ∨ ∃ c, t = .sign c ∧ f = "sign" ∧ z = ⟨#[c]⟩
theorem word_name : (Str.ofString "word" = Str.ofString "name") = False := eq_false (by decide +kernel)
theorem words_inj : ∀ s ∈ wordsL, ∀ s' ∈ wordsL, word s = word s' → s = s' := by decide +kernel
theorem words_str : ∀ s ∈ wordsL, ∀ s' ∈ wordsL, Str.ofString s = Str.ofString s' → s = s' := by decide +kernel
/-- of a token of the form asked for: its datum is a text, and it's the one asked for just where the token is -/
theorem TokV.lit {H : Hp} {f f' z : Str} {v : V} {t u : STok} (hv : TokV H f' v u) (hl : TokLit f z t) : (f' = f → scal v (.str z) = true ∧ decide (v = .str z) = tokEq u t) ∧ (f' ≠ f → tokEq u t = false) := by
  rcases hl with ⟨s, hs, rfl, rfl, rfl⟩ | ⟨c, rfl, rfl, rfl⟩
  · cases u with
    | name b =>
      rcases hv with ⟨s', hs', rfl, rfl, rfl⟩ | ⟨h1, rfl, x, rfl, _⟩
      · refine ⟨fun _ => ⟨rfl, ?_⟩, fun h => absurd rfl h⟩
        show _ = (word s' == word s)
        by_cases e : s' = s
        · subst e; simp
        · have e2 : ¬ V.str (Str.ofString s') = V.str (Str.ofString s) := fun q => e (words_str _ hs' _ hs (V.str.inj q))
          have e3 : ¬ word s' = word s := fun q => e (words_inj _ hs' _ hs q)
          rw [decide_eq_false e2, beq_eq_false_iff_ne.mpr e3]
      · refine ⟨fun h => absurd h (by decide +kernel), fun _ => ?_⟩
        show (b == word s) = false
        refine beq_eq_false_iff_ne.mpr fun q => ?_
        have hc : RESERVED.contains b = true := by
          rw [List.contains_iff_mem, reserved_eq, q]
          exact List.mem_map_of_mem hs
        rw [hc] at h1
        cases h1
    | num n => exact ⟨fun h => absurd (hv.1.symm.trans h) (by decide +kernel), fun _ => rfl⟩
    | sign d => exact ⟨fun h => absurd (hv.1.symm.trans h) (by decide +kernel), fun _ => rfl⟩
    | last => exact hv.elim
  · cases u with
    | name b =>
      rcases hv with ⟨s', hs', rfl, rfl, rfl⟩ | ⟨h1, rfl, x, rfl, _⟩
      · exact ⟨fun h => absurd h (by decide +kernel), fun _ => rfl⟩
      · exact ⟨fun h => absurd h (by decide +kernel), fun _ => rfl⟩
    | num n => exact ⟨fun h => absurd (hv.1.symm.trans h) (by decide +kernel), fun _ => rfl⟩
    | sign d =>
      obtain ⟨rfl, rfl⟩ := hv
      refine ⟨fun _ => ⟨rfl, ?_⟩, fun h => absurd rfl h⟩
      show _ = (d == c)
      by_cases e : d = c
      · subst e; simp
      · have e2 : ¬ V.str ⟨#[d]⟩ = V.str ⟨#[c]⟩ := fun q => by
          have q2 := congrArg (fun s : Str => s.cps.toList) (V.str.inj q)
          simp at q2
          exact e q2
        rw [decide_eq_false e2, beq_eq_false_iff_ne.mpr e]
    | last => exact hv.elim
def sp_is_at (K : PySem.W.Frag) : Sp := fun vs H Q _ => ∃ (r : Addr) (f z : Str) (t : STok) (G : Hp) (l : Toks), vs = [.ref r, .str f, .str z] ∧ TokLit f z t ∧ RdAt K G H r l ∧ Q (.bl (next t l)) H
theorem sc_is_at : FnScope ["reader", "form", "told"] ["reader", "form", "told"] (defScope (top 68)) := ⟨rfl, rfl, rfl, by decide +kernel, rfl, by decide +kernel, by decide +kernel⟩
theorem ok_is_at (T : Txt K mg) : Def P w K mg base CX0 2 "is_at" ["reader", "form", "told"] (sp_is_at K) := by
  obtain ⟨fd, F⟩ := fd_is_at T
  refine Def.mk' F sc_is_at (gl_is_at T) (fun vs H Q E h => by obtain ⟨_, _, _, _, _, _, rfl, _⟩ := h; rfl) (fun _ _ _ _ _ _ us hl => match us, hl with | [_, _, _], _ => rfl) fun cdv A outer s H vs Q E hr h => ?_
  refine ⟨_, PSs.nox (pss_one (ps_ret (pe_and (Def.call (ok_is_form T) hr (by decide) (pa_cons (pv 0) (pa_cons (pv 1) pa_nil))) (pe_one (pe_cmpR op_eq (pe_fld (pe_ix ix_list (pe_fld (pv 0) rfl) (pe_fld (pv 0) rfl) (fun _ _ => rfl)) rfl) (pv 2) (nomark _)))))), ?_⟩
  obtain ⟨r, f, z, t, G, l, rfl, hl, R, h⟩ := h
  refine ⟨_, rfl, _, rfl, r, f, G, l, rfl, R, _, rfl, ?_⟩
  obtain ⟨dx, tl, ts, i, len, X⟩ := R
  rcases X.cases with ⟨rfl, rfl⟩ | ⟨u, l', a, e, tdx, f', v, hi, rfl, ha, hG, hv, _⟩
  · refine ifF (decide_eq_false (fun q => by cases q)) ?_
    have e : next t [⟨len, .last⟩] = false := by
      rcases hl with ⟨s, hs, rfl, _⟩ | ⟨c, rfl, _⟩ <;> rfl
    rw [e] at h
    exact h
  · have h : Q (.bl (tokEq u.tok t)) H := h
    obtain ⟨h1, h2⟩ := hv.lit hl
    by_cases c : f' = f
    · obtain ⟨h3, h4⟩ := h1 c
      refine ifT (decide_eq_true (by show formOf u.tok = _; rw [hv.form, c])) ⟨_, rfl, _, _, _, _, _, rfl, X.ins, cl_Reader T, na_Reader_tokens T, rd_tokens, _, rfl, _, _, _, _, _, rfl, X.ins, cl_Reader T, na_Reader_at T, rd_at, _, _, _, _, rfl, rfl, SqL.of (X.same _ _ X.toks), atI_nat ha,
        _, _, _, _, _, rfl, X.same _ _ hG, cl_Token T, na_Token_told T, tok_told, _, rfl, h3, ?_⟩
      rw [h4]
      exact h
    · refine ifF (decide_eq_false (by
        show ¬ formOf u.tok = _
        rw [hv.form]
        exact fun q => c (Option.some.inj q))) ?_
      rw [h2 c] at h
      exact h
/-- what a token tells; the reader goes on -/
def sp_take (K : PySem.W.Frag) : Sp := fun vs H Q _ => ∃ (r : Addr) (G : Hp) (t : PTok) (l' : Toks), vs = [.ref r] ∧ RdAt K G H r (t :: l') ∧ t.tok ≠ .last ∧
  ∀ (f : Str) (v : V) (H' : Hp), TokV G f v t.tok → RdAt K G H' r l' → But [r] H H' → Q v H'
theorem sc_take : FnScope ["reader"] ["reader"] (defScope (top 69)) := ⟨rfl, rfl, rfl, by decide +kernel, rfl, by decide +kernel, by decide +kernel⟩
theorem ok_take (T : Txt K mg) : Def P w K mg base CX0 1 "take" ["reader"] (sp_take K) := by
  obtain ⟨fd, F⟩ := fd_take T
  refine Def.mk' F sc_take (gl_take T) (fun vs H Q E h => by obtain ⟨_, _, _, _, rfl, _⟩ := h; rfl) (fun _ _ _ _ _ _ us hl => match us, hl with | [_], _ => rfl) fun cdv A outer s H vs Q E hr h => ?_
  refine ⟨_, PSs.nox (pss_cons (ps_fld (pv 0) (pe_op op_add (pe_fld (pv 0) rfl) pe_int) rfl)
    (pss_one (ps_ret (pe_fld (pe_ix ix_list (pe_fld (pv 0) rfl) (pe_op op_sub (pe_fld (pv 0) rfl) pe_int) (fun _ _ => rfl)) rfl)))), ?_⟩
  obtain ⟨r, G, t, l', rfl, ⟨dx, tl, ts, i, len, X⟩, hn, h⟩ := h
  rcases X.cases with ⟨_, e⟩ | ⟨u, l2, a, e, tdx, f', v, hi, hl, ha, hG, hv, hrest⟩
  · cases e
    exact absurd rfl hn
  · cases hl
    have X2 := X.step hi hrest
    refine ⟨_, rfl, _, _, _, _, _, rfl, X.ins, cl_Reader T, na_Reader_at T, rd_at, _, _, rfl, rfl, _, rfl, _, _, _, _, rfl, X.ins, cl_Reader T, na_Reader_at T, (by show 3 < 1000; decide), ?_⟩
    have e3 : putF "at" ((fun (i j : Int) => V.int (i + j)) (i : Int) 1) (rdF tl len i) = rdF tl len (i + 1) := rd_put1
    rw [e3]
    refine ⟨_, rfl, _, _, _, _, _, rfl, X2.ins, cl_Reader T, na_Reader_tokens T, rd_tokens, _, rfl, _, _, _, _, _, rfl, X2.ins, cl_Reader T, na_Reader_at T, rd_at, _, _, rfl, rfl, _, _, _, _, rfl, rfl, SqL.of (X2.same _ _ X2.toks), ?_, _, _, _, _, _, rfl, X2.same _ _ hG, cl_Token T, na_Token_told T, tok_told, ?_⟩
    · have e3 : ((i + 1 : Nat) : Int) - 1 = (i : Int) := by omega
      rw [e3]
      exact atI_nat ha
    · exact h f' v _ hv ⟨dx, tl, ts, i + 1, len, X2⟩ (.put (by simp))
def sp_told_next (K : PySem.W.Frag) : Sp := fun vs H Q E => ∃ (r : Addr) (f : Str) (G : Hp) (l : Toks), vs = [.ref r, .str f] ∧ RdAt K G H r l ∧ (headForm l ≠ some f → Flt K [] H E 3 (here l)) ∧
  ∀ (t : PTok) (l' : Toks) (v : V), l = t :: l' → headForm l = some f → TokV G f v t.tok → Q v H
theorem sc_told_next : FnScope ["reader", "form"] ["reader", "form"] (defScope (top 70)) := ⟨rfl, rfl, rfl, by decide +kernel, rfl, by decide +kernel, by decide +kernel⟩
theorem ok_told_next (T : Txt K mg) : Def P w K mg base (L2.CX P w) 4 "told_next" ["reader", "form"] (sp_told_next K) := by
  obtain ⟨fd, F⟩ := fd_told_next T
  refine Def.mk' F sc_told_next (gl_told_next T) (fun vs H Q E h => by obtain ⟨_, _, _, _, rfl, _⟩ := h; rfl) (fun _ _ _ _ _ _ us hl => match us, hl with | [_, _], _ => rfl) fun cdv A outer s H vs Q E hr h => ?_
  refine ⟨_, pss_cons (ps_expr (Def.callX (ok_fault_if T) hr (by decide) (takes_of rfl rfl rfl rfl) (pa_cons (pv 0) (pa_cons (pe_not (Def.call (ok_is_form T) hr (by decide) (pa_cons (pv 0) (pa_cons (pv 1) pa_nil)))) (pa_cons (pe_gi (in_NOT_ALLOWED T)) pa_nil)))))
    (pss_one (ps_ret (pe_fld (pe_ix ix_list (pe_fld (pv 0) rfl) (pe_fld (pv 0) rfl) (fun _ _ => rfl)) rfl))), ?_⟩
  obtain ⟨r, f, G, l, rfl, R, he, hq⟩ := h
  refine ⟨_, rfl, _, rfl, _, rfl, r, f, G, l, rfl, R, _, rfl, r, _, 3, G, l, rfl, R, fun hb => ?_, fun hb => ?_⟩
  · have hf : headForm l = some f := by simpa using hb
    obtain ⟨dx, tl, ts, i, len, X⟩ := R
    rcases X.cases with ⟨rfl, rfl⟩ | ⟨u, l', a, e, tdx, f', v, hi, rfl, ha, hG, hv, _⟩
    · cases hf
    · have ef : f' = f := by
        have hf2 : formOf u.tok = some f := hf
        rw [hv.form] at hf2
        exact Option.some.inj hf2
      subst ef
      exact ⟨_, rfl, _, _, _, _, _, rfl, X.ins, cl_Reader T, na_Reader_tokens T, rd_tokens, _, rfl, _, _, _, _, _, rfl, X.ins, cl_Reader T, na_Reader_at T, rd_at, _, _, _, _, rfl, rfl, SqL.of (X.same _ _ X.toks), atI_nat ha,
        _, _, _, _, _, rfl, X.same _ _ hG, cl_Token T, na_Token_told T, tok_told, hq u l' v rfl hf hv⟩
  · exact he (by simpa using hb)
def sp_comes (K : PySem.W.Frag) : Sp := fun vs H Q _ => ∃ (r : Addr) (f z : Str) (t : STok) (G : Hp) (l : Toks), vs = [.ref r, .str f, .str z] ∧ TokLit f z t ∧ RdAt K G H r l ∧
  (next t l = false → Q (.bl false) H) ∧ (next t l = true → ∀ H', RdAt K G H' r (l.drop 1) → But [r] H H' → Q (.bl true) H')
theorem next_cons {f z : Str} {t : STok} {l : Toks} (hl : TokLit f z t) (h : next t l = true) : ∃ u l', l = u :: l' ∧ u.tok ≠ .last := by
  cases l with
  | nil => cases h
  | cons u l' =>
    refine ⟨u, l', rfl, fun e => ?_⟩
    have h : tokEq u.tok t = true := h
    rw [e] at h
    rcases hl with ⟨s, hs, rfl, _⟩ | ⟨c, rfl, _⟩ <;> cases h
theorem sc_comes : FnScope ["reader", "form", "told"] ["reader", "form", "told"] (defScope (top 71)) := ⟨rfl, rfl, rfl, by decide +kernel, rfl, by decide +kernel, by decide +kernel⟩
theorem ok_comes (T : Txt K mg) : Def P w K mg base CX0 3 "comes" ["reader", "form", "told"] (sp_comes K) := by
  obtain ⟨fd, F⟩ := fd_comes T
  refine Def.mk' F sc_comes (gl_comes T) (fun vs H Q E h => by obtain ⟨_, _, _, _, _, _, rfl, _⟩ := h; rfl) (fun _ _ _ _ _ _ us hl => match us, hl with | [_, _, _], _ => rfl) fun cdv A outer s H vs Q E hr h => ?_
  refine ⟨_, PSs.nox (pss_cons (ps_if (pt_not (pt_val (Def.call (ok_is_at T) hr (by decide) (pa_cons (pv 0) (pa_cons (pv 1) (pa_cons (pv 2) pa_nil))))))
      (pss_one (ps_ret pe_bl))
      (pss_nil))
    (pss_cons (ps_expr (Def.call (ok_take T) hr (by decide) (pa_cons (pv 0) pa_nil)))
    (pss_one (ps_ret pe_bl)))), ?_⟩
  obtain ⟨r, f, z, t, G, l, rfl, hl, R, h0, h1⟩ := h
  refine ⟨_, rfl, _, rfl, _, rfl, r, f, z, t, G, l, rfl, hl, R, _, rfl, ?_⟩
  cases e : next t l with
  | false => exact ifT rfl (h0 e)
  | true =>
    obtain ⟨u, l', rfl, hu⟩ := next_cons hl e
    exact ifF rfl ⟨_, rfl, r, G, u, l', rfl, R, hu, fun f v H' _ R' b => h1 e H' R' b⟩
def sp_want (K : PySem.W.Frag) : Sp := fun vs H Q E => ∃ (r : Addr) (f z : Str) (t : STok) (G : Hp) (l : Toks), vs = [.ref r, .str f, .str z] ∧ TokLit f z t ∧ RdAt K G H r l ∧
  (next t l = false → Flt K [] H E 3 (here l)) ∧ (next t l = true → ∀ H', RdAt K G H' r (l.drop 1) → But [r] H H' → Q .non H')
theorem sc_want : FnScope ["reader", "form", "told"] ["reader", "form", "told"] (defScope (top 72)) := ⟨rfl, rfl, rfl, by decide +kernel, rfl, by decide +kernel, by decide +kernel⟩
theorem ok_want (T : Txt K mg) : Def P w K mg base (L2.CX P w) 4 "want" ["reader", "form", "told"] (sp_want K) := by
  obtain ⟨fd, F⟩ := fd_want T
  refine Def.mk' F sc_want (gl_want T) (fun vs H Q E h => by obtain ⟨_, _, _, _, _, _, rfl, _⟩ := h; rfl) (fun _ _ _ _ _ _ us hl => match us, hl with | [_, _, _], _ => rfl) fun cdv A outer s H vs Q E hr h => ?_
  refine ⟨_, pss_one (ps_expr (Def.callX (ok_fault_if T) hr (by decide) (takes_of rfl rfl rfl rfl) (pa_cons (pv 0) (pa_cons (pe_not (Def.call (ok_comes T) hr (by decide) (pa_cons (pv 0) (pa_cons (pv 1) (pa_cons (pv 2) pa_nil))))) (pa_cons (pe_gi (in_NOT_ALLOWED T)) pa_nil))))), ?_⟩
  obtain ⟨r, f, z, t, G, l, rfl, hl, R, h0, h1⟩ := h
  refine ⟨_, rfl, _, rfl, _, rfl, _, rfl, r, f, z, t, G, l, rfl, hl, R, fun e => ?_, fun e H' R' b => ?_⟩
  · exact ⟨_, rfl, r, _, 3, G, l, rfl, R, (fun hb => by cases hb), fun _ => h0 e⟩
  · exact ⟨_, rfl, r, _, 3, G, _, rfl, R', fun _ => h1 e H' R' b, (fun hb => by cases hb)⟩
def sp_read_number (K : PySem.W.Frag) : Sp := fun vs H Q E => ∃ (r : Addr) (lo hi : Int) (G : Hp) (l : Toks), vs = [.ref r, .int lo, .int hi] ∧ RdAt K G H r l ∧
  (∀ q n l', l = ⟨q, .num n⟩ :: l' → (lo ≤ n ∧ (n : Int) ≤ hi) → ∀ H', RdAt K G H' r l' → But [r] H H' → Q (.int (n : Nat)) H') ∧
  (∀ q n l', l = ⟨q, .num n⟩ :: l' → ¬ (lo ≤ n ∧ (n : Int) ≤ hi) → Flt K [] H E 7 q) ∧ ((∀ q n l', l ≠ ⟨q, .num n⟩ :: l') → Flt K [] H E 3 (here l))
theorem sc_read_number : FnScope ["reader", "least", "most", "number"] ["reader", "least", "most"] (defScope (top 75)) := ⟨rfl, rfl, rfl, by decide +kernel, rfl, by decide +kernel, by decide +kernel⟩
theorem ok_read_number (T : Txt K mg) : Def P w K mg base (L2.CX P w) 5 "read_number" ["reader", "least", "most"] (sp_read_number K) := by
  obtain ⟨fd, F⟩ := fd_read_number T
  refine Def.mk' F sc_read_number (gl_read_number T) (fun vs H Q E h => by obtain ⟨_, _, _, _, _, rfl, _⟩ := h; rfl) (fun _ _ _ _ _ _ us hl => match us, hl with | [_, _, _], _ => rfl) fun cdv A outer s H vs Q E hr h => ?_
  refine ⟨_, pss_cons (ps_set (i := 3) sc_read_number.nd rfl (Or.inl rfl) (Def.callX (ok_told_next T) hr (by decide) (takes_of rfl rfl rfl rfl) (pa_cons (pv 0) (pa_cons (pe_gs (st_NUMBER T)) pa_nil))))
    (pss_cons (ps_expr (Def.callX (ok_fault_if T) hr (by decide) (takes_of rfl rfl rfl rfl) (pa_cons (pv 0) (pa_cons (pe_not (pe_chain op_le op_le (pv 1) (pv 3) (pv 2))) (pa_cons (pe_gi (in_TOO_GREAT T)) pa_nil)))))
    (pss_one (ps_ret (Def.call (ok_take T) hr (by decide) (pa_cons (pv 0) pa_nil))))), ?_⟩
  obtain ⟨r, lo, hi, G, l, rfl, R, hq, h7, h3⟩ := h
  refine ⟨_, rfl, r, _, G, l, rfl, R, fun hf => h3 fun q n l' e => hf ?_, fun t l' v e hf hv => ?_⟩
  · rw [e]
    rfl
  · subst e
    obtain ⟨q, tok⟩ := t
    cases tok with
    | name b => rcases hv with ⟨_, _, _, z, _⟩ | ⟨_, z, _⟩ <;> exact absurd z (by decide +kernel)
    | sign c => exact absurd hv.1 (by decide +kernel)
    | last => exact hv.elim
    | num n =>
      obtain ⟨_, rfl⟩ := hv
      refine ⟨_, rfl, _, rfl, _, rfl, chain2 (fun Q' z => ⟨_, rfl, z⟩) ⟨_, rfl, r, _, 7, G, _, rfl, R, fun hb => ?_, fun hb => ?_⟩⟩
      · have hb : lo ≤ n ∧ (n : Int) ≤ hi := by simpa using hb
        exact ⟨_, rfl, r, G, _, l', rfl, R, (by intro z; cases z), fun f v H' hv R' b => by
          obtain ⟨_, rfl⟩ := hv
          exact hq q n l' rfl hb H' R' b⟩
      · exact h7 q n l' rfl fun ⟨z1, z2⟩ => by
          rw [decide_eq_true z1, decide_eq_true z2] at hb
          cases hb
end
end Bw
set_option Elab.async false
set_option linter.all false
set_option maxRecDepth 100000
set_option maxHeartbeats 4000000
namespace Bw
open PySem PySem.Spec PyProof.Rows L2
section
variable {P : Program} {w : World} {K : PySem.W.Frag} {mg : Str → Option Value} {base : Heap}
open VamvsBase (PTok Toks Bytes PName token numberOf decimal word RESERVED lex here next tokEq takeName takeWord takeSign wrong)
open Vamvsa (takeColumns)
/-! ### a table's parts -/
def tbF (cl rl ql : V) : List (Str × V) := [("columns", cl), ("rows", rl), ("questions", ql)]
def rowF (c t : V) : List (Str × V) := [("cells", c), ("told", t)]
def quF (g k : V) : List (Str × V) := [("grouping", g), ("times", k)]
theorem tb_columns {a b c : V} : (tbF a b c).lookup ("columns" : Str) = some a := by kernel_rfl
theorem tb_rows {a b c : V} : (tbF a b c).lookup ("rows" : Str) = some b := by kernel_rfl
theorem tb_questions {a b c : V} : (tbF a b c).lookup ("questions" : Str) = some c := by kernel_rfl
theorem row_cells {a b : V} : (rowF a b).lookup ("cells" : Str) = some a := by kernel_rfl
theorem row_told {a b : V} : (rowF a b).lookup ("told" : Str) = some b := by kernel_rfl
theorem qu_grouping {a b : V} : (quF a b).lookup ("grouping" : Str) = some a := by kernel_rfl
theorem qu_times {a b : V} : (quF a b).lookup ("times" : Str) = some b := by kernel_rfl
theorem row_put (a b : V) : putF "told" b (putF "cells" a []) = rowF a b := by kernel_rfl
theorem qu_put (a b : V) : putF "times" b (putF "grouping" a []) = quF a b := by kernel_rfl
theorem tb_put (a b c : V) : putF "questions" c (putF "rows" b (putF "columns" a [])) = tbF a b c := by kernel_rfl
theorem rd_put0 (tl : Addr) (len : Nat) : putF "at" (.int 0) (putF "length" (.int (len : Nat)) (putF "tokens" (.ref tl) [])) = rdF tl len 0 := by kernel_rfl
def sp_Row_init (K : PySem.W.Frag) : Sp := fun vs H Q _ => ∃ (p dx : Addr) (a b : V), vs = [.ref p, a, b] ∧ H p = some (.ins (He.ga K "Row") dx []) ∧ Q .non (upd H p (.ins (He.ga K "Row") dx (rowF a b)))
theorem sc_Row_init : FnScope ["self", "cells", "told"] ["self", "cells", "told"] (defScope (inClass (top 61) 0)) := ⟨rfl, rfl, rfl, by decide +kernel, rfl, by decide +kernel, by decide +kernel⟩
theorem ok_Row_init (T : Txt K mg) : DefC P w K mg base CX0 1 "Row" ["self", "cells", "told"] (sp_Row_init K) := by
  obtain ⟨fd, F⟩ := fd_Row_init T
  refine DefC.mk' F sc_Row_init (gl_Row T) (mk_Row T) (fun vs H Q E h => by obtain ⟨_, _, _, _, rfl, _⟩ := h; rfl) (fun _ _ _ _ _ _ us hl => match us, hl with | [_, _, _], _ => rfl) fun cdv A outer s H vs Q E hr h => ?_
  refine ⟨_, PSs.nox (pss_cons (ps_fld (pv 0) (pv 1) rfl)
    (pss_one (ps_fld (pv 0) (pv 2) rfl))), ?_⟩
  obtain ⟨p, dx, a, b, rfl, hp, h⟩ := h
  refine ⟨_, rfl, _, rfl, _, _, _, _, rfl, hp, cl_Row T, na_Row_cells T, (by show 0 < 1000; decide), ?_⟩
  refine ⟨_, rfl, _, rfl, _, _, _, _, rfl, upd_same, cl_Row T, na_Row_told T, (by show 1 < 1000; decide), ?_⟩
  rw [upd_upd, row_put]
  exact h
def sp_Question_init (K : PySem.W.Frag) : Sp := fun vs H Q _ => ∃ (p dx : Addr) (a b : V), vs = [.ref p, a, b] ∧ H p = some (.ins (He.ga K "Question") dx []) ∧ Q .non (upd H p (.ins (He.ga K "Question") dx (quF a b)))
theorem sc_Question_init : FnScope ["self", "grouping", "times"] ["self", "grouping", "times"] (defScope (inClass (top 62) 0)) := ⟨rfl, rfl, rfl, by decide +kernel, rfl, by decide +kernel, by decide +kernel⟩
theorem ok_Question_init (T : Txt K mg) : DefC P w K mg base CX0 1 "Question" ["self", "grouping", "times"] (sp_Question_init K) := by
  obtain ⟨fd, F⟩ := fd_Question_init T
  refine DefC.mk' F sc_Question_init (gl_Question T) (mk_Question T) (fun vs H Q E h => by obtain ⟨_, _, _, _, rfl, _⟩ := h; rfl) (fun _ _ _ _ _ _ us hl => match us, hl with | [_, _, _], _ => rfl) fun cdv A outer s H vs Q E hr h => ?_
  refine ⟨_, PSs.nox (pss_cons (ps_fld (pv 0) (pv 1) rfl)
    (pss_one (ps_fld (pv 0) (pv 2) rfl))), ?_⟩
  obtain ⟨p, dx, a, b, rfl, hp, h⟩ := h
  refine ⟨_, rfl, _, rfl, _, _, _, _, rfl, hp, cl_Question T, na_Question_grouping T, (by show 0 < 1000; decide), ?_⟩
  refine ⟨_, rfl, _, rfl, _, _, _, _, rfl, upd_same, cl_Question T, na_Question_times T, (by show 1 < 1000; decide), ?_⟩
  rw [upd_upd, qu_put]
  exact h
/-- an instance made: its __init__ leaves it with the attributes F -/
theorem inst_made {sp : Sp} {C : Addr} {args : List V} {F : List (Str × V)} {H : Hp} {Q : VK} {E : XK}
    (hsp : ∀ (x dx : Addr) (H1 : Hp) (Q1 : VK), H1 x = some (.ins C dx []) → Q1 .non (upd H1 x (.ins C dx F)) → sp (.ref x :: (args ++ [])) H1 Q1 E)
    (h : ∀ (H' : Hp) (x : Addr), Same H H' → H x = none → (∃ dx, H' x = some (.ins C dx F)) → Q (.ref x) H') :
    ∀ x dx, H x = none → H dx = none → dx ≠ x → sp (.ref x :: (args ++ [])) (upd (upd H dx (.own x)) x (.ins C dx [])) (fun w H2 => w = .non ∧ Q (.ref x) H2) E := fun x dx nx nd ne => by
  refine hsp x dx _ _ upd_same ⟨rfl, ?_⟩
  rw [upd_upd]
  refine h _ x (fun c u q => ?_) nx ⟨dx, upd_same⟩
  rw [upd_ne (ne_of_none q nx), upd_ne (ne_of_none q nd)]
  exact q
theorem row_made {a b : V} {H : Hp} {Q : VK} {E : XK} (h : ∀ (H' : Hp) (x : Addr), Same H H' → H x = none → (∃ dx, H' x = some (.ins (He.ga K "Row") dx (rowF a b))) → Q (.ref x) H') :
    ∀ x dx, H x = none → H dx = none → dx ≠ x → sp_Row_init K (.ref x :: ([a, b] ++ [])) (upd (upd H dx (.own x)) x (.ins (He.ga K "Row") dx [])) (fun w H2 => w = .non ∧ Q (.ref x) H2) E :=
  inst_made (fun x dx _ _ h1 h2 => ⟨x, dx, a, b, rfl, h1, h2⟩) h
theorem qu_made {a b : V} {H : Hp} {Q : VK} {E : XK} (h : ∀ (H' : Hp) (x : Addr), Same H H' → H x = none → (∃ dx, H' x = some (.ins (He.ga K "Question") dx (quF a b))) → Q (.ref x) H') :
    ∀ x dx, H x = none → H dx = none → dx ≠ x → sp_Question_init K (.ref x :: ([a, b] ++ [])) (upd (upd H dx (.own x)) x (.ins (He.ga K "Question") dx [])) (fun w H2 => w = .non ∧ Q (.ref x) H2) E :=
  inst_made (fun x dx _ _ h1 h2 => ⟨x, dx, a, b, rfl, h1, h2⟩) h
/-- three new lists -/
def sp_Table_init (K : PySem.W.Frag) : Sp := fun vs H Q _ => ∃ (p dx : Addr), vs = [.ref p] ∧ H p = some (.ins (He.ga K "Table") dx []) ∧
  ∀ (cl rl ql : Addr) (H' : Hp), H cl = none → H rl = none → H ql = none → cl ≠ rl → cl ≠ ql → rl ≠ ql → H' cl = some (.lst []) → H' rl = some (.lst []) → H' ql = some (.lst []) → H' p = some (.ins (He.ga K "Table") dx (tbF (.ref cl) (.ref rl) (.ref ql))) → But [p] H H' → Q .non H'
theorem sc_Table_init : FnScope ["self"] ["self"] (defScope (inClass (top 63) 0)) := ⟨rfl, rfl, rfl, by decide +kernel, rfl, by decide +kernel, by decide +kernel⟩
theorem ok_Table_init (T : Txt K mg) : DefC P w K mg base CX0 1 "Table" ["self"] (sp_Table_init K) := by
  obtain ⟨fd, F⟩ := fd_Table_init T
  refine DefC.mk' F sc_Table_init (gl_Table T) (mk_Table T) (fun vs H Q E h => by obtain ⟨_, _, rfl, _⟩ := h; rfl) (fun _ _ _ _ _ _ us hl => match us, hl with | [_], _ => rfl) fun cdv A outer s H vs Q E hr h => ?_
  refine ⟨_, PSs.nox (pss_cons (ps_fld (pv 0) (pe_lst pa_nil) rfl)
    (pss_cons (ps_fld (pv 0) (pe_lst pa_nil) rfl)
    (pss_one (ps_fld (pv 0) (pe_lst pa_nil) rfl)))), ?_⟩
  obtain ⟨p, dx, rfl, hp, h⟩ := h
  refine ⟨by show 0 ≤ sizeLine; decide, fun cl hcl => ?_⟩
  have hpc : p ≠ cl := fun z => by rw [z, hcl] at hp; cases hp
  refine ⟨_, rfl, _, _, _, _, rfl, (upd_ne hpc).trans hp, cl_Table T, na_Table_columns T, (by show 0 < 1000; decide), ?_⟩
  refine ⟨by show 0 ≤ sizeLine; decide, fun rl hrl => ?_⟩
  have hpr : p ≠ rl := fun z => by rw [← z, upd_same] at hrl; cases hrl
  have hcr : cl ≠ rl := fun z => by rw [← z, upd_ne (Ne.symm hpc), upd_same] at hrl; cases hrl
  rw [upd_ne (Ne.symm hpr), upd_ne (Ne.symm hcr)] at hrl
  refine ⟨_, rfl, _, _, _, _, rfl, (upd_ne hpr).trans upd_same, cl_Table T, na_Table_rows T, (by show 1 < 1000; decide), ?_⟩
  refine ⟨by show 0 ≤ sizeLine; decide, fun ql hql => ?_⟩
  have hpq : p ≠ ql := fun z => by rw [← z, upd_same] at hql; cases hql
  have hrq : rl ≠ ql := fun z => by rw [← z, upd_ne (Ne.symm hpr), upd_same] at hql; cases hql
  have hcq : cl ≠ ql := fun z => by rw [← z, upd_ne (Ne.symm hpc), upd_ne hcr, upd_ne (Ne.symm hpc), upd_same] at hql; cases hql
  rw [upd_ne (Ne.symm hpq), upd_ne (Ne.symm hrq), upd_ne (Ne.symm hpq), upd_ne (Ne.symm hcq)] at hql
  refine ⟨_, rfl, _, _, _, _, rfl, (upd_ne hpq).trans upd_same, cl_Table T, na_Table_questions T, (by show 2 < 1000; decide), ?_⟩
  refine h cl rl ql _ hcl hrl hql hcr hcq hrq ?_ ?_ ?_ ?_ ?_
  · rw [upd_ne (Ne.symm hpc), upd_ne hcq, upd_ne (Ne.symm hpc), upd_ne hcr, upd_ne (Ne.symm hpc), upd_same]
  · rw [upd_ne (Ne.symm hpr), upd_ne hrq, upd_ne (Ne.symm hpr), upd_same]
  · rw [upd_ne (Ne.symm hpq), upd_same]
  · rw [upd_same, tb_put]
  · intro b o e hb
    have hbp : b ≠ p := by simpa using hb
    rw [upd_ne hbp, upd_ne (ne_of_none e hql), upd_ne hbp, upd_ne (ne_of_none e hrl), upd_ne hbp, upd_ne (ne_of_none e hcl)]
    exact e
def sp_Reader_init (K : PySem.W.Frag) : Sp := fun vs H Q E => ∃ (p dx a : Addr) (b : Bytes), vs = [.ref p, .ref a] ∧ H p = some (.ins (He.ga K "Reader") dx []) ∧ SqL K H a ((byV b).map V.int) ∧ b.length ≤ 10000 ∧
  (∀ l, lex (b.length + 1) 0 b = .ok l → ∀ H', RdAt K (newer H H') H' p l → But [p] H H' → Q .non H') ∧ (∀ f, lex (b.length + 1) 0 b = .error f → Flt K [] H E f.code f.place)
theorem sc_Reader_init : FnScope ["self", "text"] ["self", "text"] (defScope (inClass (top 64) 0)) := ⟨rfl, rfl, rfl, by decide +kernel, rfl, by decide +kernel, by decide +kernel⟩
theorem ok_Reader_init (T : Txt K mg) : DefC P w K mg base (L2.CX P w) 6 "Reader" ["self", "text"] (sp_Reader_init K) := by
  obtain ⟨fd, F⟩ := fd_Reader_init T
  refine DefC.mk' F sc_Reader_init (gl_Reader T) (mk_Reader T) (fun vs H Q E h => by obtain ⟨_, _, _, _, rfl, _⟩ := h; rfl) (fun _ _ _ _ _ _ us hl => match us, hl with | [_, _], _ => rfl) fun cdv A outer s H vs Q E hr h => ?_
  refine ⟨_, pss_cons (ps_fld (pv 0) (Def.callX (ok_tokens_of T) hr (by decide) (takes_of rfl rfl rfl rfl) (pa_cons (pv 1) pa_nil)) rfl)
    (pss_cons (ps_fld (pv 0) (pe_callB call_len_seq (by rfl) (fr_len T) PySem.boot_len (pa_cons (pv 1) pa_nil)) rfl)
    (pss_one (ps_fld (pv 0) pe_int rfl))), ?_⟩
  obtain ⟨p, dx, a, b, rfl, hp, ha, hsz, hq, he⟩ := h
  refine ⟨_, rfl, a, b, rfl, ha, hsz, fun l hl H1 tl ts hs htl hts hrest => ?_, fun f hf => he f hf⟩
  have hp1 := hs _ _ hp
  have hpt : p ≠ tl := fun z => by rw [← z, hp] at htl; cases htl
  refine ⟨_, rfl, _, _, _, _, rfl, hp1, cl_Reader T, na_Reader_tokens T, (by show 0 < 1000; decide), ?_⟩
  refine ⟨_, rfl, _, _, rfl, .inl ((hs.seq ha).elim (fun q => ?_) Or.inr), ?_⟩
  · refine .inl ?_
    rcases q with q | ⟨o, q⟩
    · exact .inl (by rw [upd_ne (ne_of q hp1 (by intro z; cases z))]; exact q)
    · exact .inr ⟨o, by rw [upd_ne (ne_of q hp1 (by intro z; cases z))]; exact q⟩
  refine ⟨_, rfl, _, _, _, _, rfl, upd_same, cl_Reader T, na_Reader_length T, (by show 1 < 1000; decide), ?_⟩
  rw [upd_upd, List.length_map, byV_len]
  refine ⟨_, rfl, _, _, _, _, rfl, upd_same, cl_Reader T, na_Reader_at T, (by show 2 < 1000; decide), ?_⟩
  rw [upd_upd, rd_put0]
  have hc : newer H (upd H1 p (.ins (He.ga K "Reader") dx (rdF tl b.length 0))) = newer H H1 := newer_skip hp
  refine hq l hl _ ⟨dx, tl, ts, 0, b.length, ⟨newer_in _ _, newer_old hp, upd_same, ?_, Nat.zero_le _, ?_⟩⟩ ((But.of_same hs).trans (.put (by simp)))
  · rw [hc]
    exact newer_of htl hts
  · rw [hc]
    exact hrest
end
end Bw
set_option Elab.async false
set_option linter.all false
set_option maxRecDepth 100000
set_option maxHeartbeats 4000000
namespace Bw
open PySem PySem.Spec PyProof.Rows L2
section
variable {P : Program} {w : World} {K : PySem.W.Frag} {mg : Str → Option Value} {base : Heap}
open VamvsBase (PTok Toks Bytes PName token numberOf decimal word RESERVED lex here next tokEq takeName takeWord takeSign wrong)
open Vamvsa (takeColumns)
/-! ### lists of things at addresses -/
def Al2 {α : Type} (R : Addr → α → Prop) : List Addr → List α → Prop
  | [], [] => True
  | a :: r, x :: l => R a x ∧ Al2 R r l
  | _, _ => False
section
variable {α : Type} {R S : Addr → α → Prop}
theorem Al2.len : ∀ {as : List Addr} {l : List α}, Al2 R as l → as.length = l.length
  | [], [], _ => rfl
  | _ :: _, _ :: _, ⟨_, h⟩ => congrArg Nat.succ (Al2.len h)
theorem Al2.imp (f : ∀ a x, R a x → S a x) : ∀ {as : List Addr} {l : List α}, Al2 R as l → Al2 S as l
  | [], [], _ => trivial
  | _ :: _, _ :: _, ⟨x, h⟩ => ⟨f _ _ x, Al2.imp f h⟩
theorem Al2.snoc {a : Addr} {x : α} (h : R a x) : ∀ {as : List Addr} {l : List α}, Al2 R as l → Al2 R (as ++ [a]) (l ++ [x])
  | [], [], _ => ⟨h, trivial⟩
  | _ :: _, _ :: _, ⟨y, q⟩ => ⟨y, Al2.snoc h q⟩
theorem Al2.get : ∀ {as : List Addr} {l : List α} {i : Nat} {x : α}, Al2 R as l → l[i]? = some x → ∃ a, as[i]? = some a ∧ R a x
  | [], [], _, _, _, e => by simp at e
  | a :: _, _ :: _, 0, x, ⟨y, _⟩, e => by
    have e : _ = x := Option.some.inj e
    exact ⟨a, rfl, by rw [← e]; exact y⟩
  | _ :: _, _ :: _, i + 1, x, ⟨_, q⟩, e => Al2.get (i := i) q e
theorem Al2.getA : ∀ {as : List Addr} {l : List α} {i : Nat} {a : Addr}, Al2 R as l → as[i]? = some a → ∃ x, l[i]? = some x ∧ R a x
  | [], [], _, _, _, e => by simp at e
  | _ :: _, x :: _, 0, a, ⟨y, _⟩, e => by
    have e : _ = a := Option.some.inj e
    exact ⟨x, rfl, by rw [← e]; exact y⟩
  | _ :: _, _ :: _, i + 1, x, ⟨_, q⟩, e => Al2.getA (i := i) q e
end
def ColA (G : Hp) (a : Addr) (c : Bytes) : Prop := G a = some (.tup ((byV c).map V.int))
theorem ColA.same {G H : Hp} (s : Same G H) (a : Addr) (c : Bytes) (h : ColA G a c) : ColA H a c := s _ _ h
/-! ### names -/
theorem head_name {l : Toks} (h : headForm l = some "name") : ∃ q b r, l = ⟨q, .name b⟩ :: r ∧ RESERVED.contains b = false := by
  cases l with
  | nil => cases h
  | cons t r =>
    obtain ⟨q, tok⟩ := t
    have h : formOf tok = some "name" := h
    cases tok with
    | name b =>
      refine ⟨q, b, r, rfl, ?_⟩
      cases e : RESERVED.contains b with
      | false => rfl
      | true =>
        have h : (if RESERVED.contains b = true then (some "word" : Option Str) else some "name") = some "name" := h
        rw [if_pos e] at h
        exact absurd (Option.some.inj h) (by decide +kernel)
    | num n => exact absurd (Option.some.inj h) (by decide +kernel)
    | sign c => exact absurd (Option.some.inj h) (by decide +kernel)
    | last => cases h
theorem takeName_ok {q : Nat} {b : Bytes} {r : Toks} (h : RESERVED.contains b = false) : takeName (⟨q, .name b⟩ :: r) = .ok (⟨q, b⟩, r) := by
  show (if RESERVED.contains b = true then _ else _) = _
  rw [if_neg (by rw [h]; simp)]
theorem takeName_no {l : Toks} (h : headForm l ≠ some "name") : takeName l = .error ⟨3, here l⟩ := by
  cases l with
  | nil => rfl
  | cons t r =>
    obtain ⟨q, tok⟩ := t
    cases tok with
    | name b =>
      show (if RESERVED.contains b = true then _ else _) = _
      by_cases e : RESERVED.contains b = true
      · rw [if_pos e]; rfl
      · exact absurd (show (if RESERVED.contains b = true then (some "word" : Option Str) else some "name") = some "name" from if_neg e) h
    | num n => rfl
    | sign c => rfl
    | last => rfl
theorem TokV.nameV {G : Hp} {v : V} {b : Bytes} (h : TokV G "name" v (.name b)) : ∃ t, v = .ref t ∧ G t = some (.tup ((byV b).map V.int)) := by
  rcases h with ⟨_, _, _, z, _⟩ | ⟨_, _, t, e, h⟩
  · exact absurd z (by decide +kernel)
  · exact ⟨t, e, h⟩
/-! ### a name among the columns -/
def colsD (cs : List Bytes) : List PyData := cs.map fun c => PyData.tuple (dI (byV c))
theorem colsD_lay : ∀ cs : List Bytes, PyData.canLayAll0 (colsD cs) = true
  | [] => by simp [colsD, PyData.canLayAll0]
  | c :: cs => by
    have h := colsD_lay cs
    have h2 := lay_ints (byV c)
    unfold colsD at h ⊢
    simp only [List.map_cons, PyData.canLayAll0, PyData.canLay0]
    rw [h, h2]
    rfl
theorem colsD_depth : ∀ cs : List Bytes, PyData.depthAll (colsD cs) ≤ 1
  | [] => by simp [colsD, PyData.depthAll]
  | c :: cs => by
    have h := colsD_depth cs
    have h2 := depth_ints (byV c)
    unfold colsD at h ⊢
    simp only [List.map_cons, PyData.depthAll, PyData.depth, h2]
    omega
theorem shaped_cols (cs : List Bytes) : SeqAt.shaped (.list (colsD cs)) = true := by
  have h1 := colsD_lay cs
  have h2 : PyData.depth (.list (colsD cs)) ≤ 64 := by
    have := colsD_depth cs
    simp only [PyData.depth]
    omega
  show (PyData.canLay0 (.list (colsD cs)) && decide (PyData.depth (.list (colsD cs)) ≤ 64)) = true
  rw [Bool.and_eq_true]
  exact ⟨by simp only [PyData.canLay0]; exact h1, decide_eq_true h2⟩
theorem eqv_name (a b : Bytes) : PyData.eqv (.tuple (dI (byV a))) (.tuple (dI (byV b))) = (a == b) := by
  show PyData.eqvAll (dI (byV a)) (dI (byV b)) = _
  rw [eqv_ints]
  by_cases e : a = b
  · subst e; simp
  · rw [decide_eq_false fun q => e (byV_inj q), beq_eq_false_iff_ne.mpr e]
theorem any_cols (cs : List Bytes) (b : Bytes) : ((colsD cs).any fun z => PyData.eqv z (.tuple (dI (byV b)))) = cs.contains b := by
  unfold colsD
  rw [List.any_map]
  induction cs with
  | nil => rfl
  | cons c cs ih =>
    rw [List.any_cons, List.contains_cons, ih]
    show (PyData.eqv _ _ || _) = _
    rw [eqv_name]
    congr 1
    by_cases e : c = b
    · subst e; simp
    · rw [beq_eq_false_iff_ne.mpr e, beq_eq_false_iff_ne.mpr (Ne.symm e)]
theorem dp_cols {K : PySem.W.Frag} {G H : Hp} (s : Same G H) : ∀ {as : List Addr} {cs : List Bytes}, Al2 (ColA G) as cs → DpAll K H (as.map V.ref) (colsD cs)
  | [], [], _ => .nil
  | _ :: _, _ :: _, ⟨h, r⟩ => .cons (.tup (SqT.of (s _ _ h)) (dp_ints _)) (dp_cols s r)
/-! ### read_column -/
def TbI (K : PySem.W.Frag) (G : Hp) (ta cl rl ql : Addr) : Prop := ∃ dx, G ta = some (.ins (He.ga K "Table") dx (tbF (.ref cl) (.ref rl) (.ref ql)))
theorem TbI.same {K : PySem.W.Frag} {G H : Hp} {ta cl rl ql : Addr} (s : Same G H) (h : TbI K G ta cl rl ql) : TbI K H ta cl rl ql := let ⟨dx, h⟩ := h; ⟨dx, s _ _ h⟩
theorem RdAt.ne {K : PySem.W.Frag} {G H : Hp} {r c : Addr} {l : Toks} {xs : List V} (R : RdAt K G H r l) (h : H c = some (.lst xs)) : c ≠ r := by
  obtain ⟨_, _, _, _, _, X⟩ := R
  exact ne_of h X.ins (by intro z; cases z)
theorem RdAt.putL {K : PySem.W.Frag} {G H : Hp} {r c : Addr} {l : Toks} {o : HO} (R : RdAt K G H r l) (h : G c = none) (n : c ≠ r) : RdAt K G (upd H c o) r l := by
  obtain ⟨dx, tl, ts, i, len, X⟩ := R
  exact ⟨dx, tl, ts, i, len, ⟨fun b u e => by rw [upd_ne (ne_of_none e h)]; exact X.same b u e, X.nor, by rw [upd_ne (Ne.symm n)]; exact X.ins, X.toks, X.le, X.rest⟩⟩
def colOf (cs : List Bytes) (l : Toks) : Except VamvsBase.Fault (List Bytes × Toks) := (takeName l).bind fun x => if Vamvsa.COLUMNS ≤ cs.length then .error ⟨4, x.1.place⟩ else if cs.contains x.1.name = true then .error ⟨5, x.1.place⟩ else .ok (cs ++ [x.1.name], x.2)
def sp_read_column (K : PySem.W.Frag) : Sp := fun vs H Q E => ∃ (r ta : Addr) (G : Hp) (l : Toks) (cl rl ql : Addr) (cs : List Bytes) (as : List Addr), vs = [.ref r, .ref ta] ∧ TbI K G ta cl rl ql ∧ RdAt K G H r l ∧ H cl = some (.lst (as.map V.ref)) ∧ Al2 (ColA G) as cs ∧ G cl = none ∧ cs.length ≤ 4 ∧
  (∀ cs' l', colOf cs l = .ok (cs', l') → ∀ (H' : Hp) (t : Addr), RdAt K G H' r l' → But [r, cl] H H' → H' cl = some (.lst ((as ++ [t]).map V.ref)) → Al2 (ColA G) (as ++ [t]) cs' → Q .non H') ∧ (∀ f, colOf cs l = .error f → Flt K [] H E f.code f.place)
theorem sc_read_column : FnScope ["reader", "table", "name"] ["reader", "table"] (defScope (top 73)) := ⟨rfl, rfl, rfl, by decide +kernel, rfl, by decide +kernel, by decide +kernel⟩
theorem ok_read_column (T : Txt K mg) : Def P w K mg base (L2.CX P w) 5 "read_column" ["reader", "table"] (sp_read_column K) := by
  obtain ⟨fd, F⟩ := fd_read_column T
  refine Def.mk' F sc_read_column (gl_read_column T) (fun vs H Q E h => by obtain ⟨_, _, _, _, _, _, _, _, _, rfl, _⟩ := h; rfl) (fun _ _ _ _ _ _ us hl => match us, hl with | [_, _], _ => rfl) fun cdv A outer s H vs Q E hr h => ?_
  refine ⟨_, pss_cons (ps_set (i := 2) sc_read_column.nd rfl (Or.inl rfl) (Def.callX (ok_told_next T) hr (by decide) (takes_of rfl rfl rfl rfl) (pa_cons (pv 0) (pa_cons (pe_gs (st_NAME T)) pa_nil))))
    (pss_cons (ps_expr (Def.callX (ok_fault_if T) hr (by decide) (takes_of rfl rfl rfl rfl) (pa_cons (pv 0) (pa_cons (pe_cmpR op_eq (pe_callB call_len_seq (by rfl) (fr_len T) PySem.boot_len (pa_cons (pe_fld (pv 1) rfl) pa_nil)) (pe_gi (in_MOST_COLUMNS T)) (nomark _)) (pa_cons (pe_gi (in_TOO_MANY T)) pa_nil)))))
    (pss_cons (ps_expr (Def.callX (ok_fault_if T) hr (by decide) (takes_of rfl rfl rfl rfl) (pa_cons (pv 0) (pa_cons (pe_cmpR (op_inD (hr65 hr)) (pv 2) (pe_fld (pv 1) rfl) (by rfl)) (pa_cons (pe_gi (in_TOLD T)) pa_nil)))))
    (pss_one (ps_expr (pe_bm PySem.F.plainAttrs_list PySem.F.slot_list_append PySem.F.type_list_append mt_append (pe_fld (pv 1) rfl) (pa_cons (Def.call (ok_take T) hr (by decide) (pa_cons (pv 0) pa_nil)) pa_nil)))))), ?_⟩
  obtain ⟨r, ta, G, l, cl, rl, ql, cs, as, rfl, ⟨tdx, hta⟩, R, hcl, hcols, hncl, h4, hq, he⟩ := h
  have hlen := hcols.len
  refine ⟨_, rfl, r, _, G, l, rfl, R, fun hf => he ⟨3, here l⟩ ?_, fun t l' v e hf hv => ?_⟩
  · unfold colOf
    rw [takeName_no hf]
    rfl
  · obtain ⟨q, b, r', rfl, hres⟩ := head_name hf
    cases e
    obtain ⟨x, rfl, hx⟩ := hv.nameV
    have hco : colOf cs (⟨q, .name b⟩ :: l') = if Vamvsa.COLUMNS ≤ cs.length then .error ⟨4, q⟩ else if cs.contains b = true then .error ⟨5, q⟩ else .ok (cs ++ [b], l') := by
      unfold colOf
      rw [takeName_ok hres]
      rfl
    rw [hco] at hq he
    refine ⟨_, rfl, _, rfl, _, _, _, _, _, rfl, R.same _ _ hta, cl_Table T, na_Table_columns T, tb_columns, _, _, rfl, .inl (SqL.of hcl), rfl, r, _, 4, G, _, rfl, R, fun hb => ?_, fun hb => ?_⟩
    · have hb : ¬ Vamvsa.COLUMNS ≤ cs.length := fun z => by
        have z : 4 ≤ cs.length := z
        rw [decide_eq_false_iff_not] at hb
        exact hb (by rw [List.length_map, show as.length = 4 by omega]; rfl)
      rw [if_neg hb] at hq he
      refine ⟨_, rfl, _, rfl, _, rfl, _, _, _, _, _, rfl, R.same _ _ hta, cl_Table T, na_Table_columns T, tb_columns, .tuple (dI (byV b)), colsD cs, .tup (SqT.of (R.same _ _ hx)) (dp_ints _), .lst (SqL.of hcl) (dp_cols R.same hcols), shaped_tup _, shaped_cols _, r, _, 5, G, _, rfl, R, fun hb2 => ?_, fun hb2 => ?_⟩
      · rw [any_cols] at hb2
        rw [if_neg (by rw [hb2]; simp)] at hq
        refine ⟨_, rfl, _, _, _, _, _, rfl, R.same _ _ hta, cl_Table T, na_Table_columns T, tb_columns, .inl ⟨rfl, _, SqL.of hcl⟩, _, rfl, r, G, _, l', rfl, R, (by intro z; cases z), fun f v H1 hv2 R1 b1 => ?_⟩
        obtain ⟨y, rfl, hy⟩ : ∃ y, v = .ref y ∧ G y = some (.tup ((byV b).map V.int)) := by
          rcases hv2 with ⟨s, hs, e1, _⟩ | ⟨_, _, y, e2, e3⟩
          · exfalso
            have hc : RESERVED.contains b = true := by
              rw [List.contains_iff_mem, reserved_eq, e1]
              exact List.mem_map_of_mem hs
            rw [hc] at hres
            cases hres
          · exact ⟨y, e2, e3⟩
        have hne := R.ne hcl
        have hcl1 := b1 _ _ hcl (by simpa using hne)
        refine ⟨_, _, _, rfl, rfl, hcl1, ?_, hq _ _ rfl _ y (R1.putL hncl hne) ((b1.mono (by simp)).trans (.put (by simp))) ?_ (hcols.snoc hy)⟩
        · rw [List.length_map, sizeLine_eq]
          omega
        · rw [upd_same, List.map_append]
          rfl
      · rw [any_cols] at hb2
        rw [if_pos hb2] at he
        exact he _ rfl
    · have hb : Vamvsa.COLUMNS ≤ cs.length := by
        have z := of_decide_eq_true hb
        rw [List.length_map] at z
        have z2 : ((as.length : Nat) : Int) = 4 := V.int.inj z
        show 4 ≤ cs.length
        omega
      rw [if_pos hb] at he
      exact he _ rfl
end
end Bw
set_option Elab.async false
set_option linter.all false
set_option maxRecDepth 100000
set_option maxHeartbeats 4000000
namespace Bw
open PySem PySem.Spec PyProof.Rows L2
section
variable {P : Program} {w : World} {K : PySem.W.Frag} {mg : Str → Option Value} {base : Heap}
open VamvsBase (PTok Toks Bytes PName token numberOf decimal word RESERVED lex here next tokEq takeName takeWord takeSign wrong)
open Vamvsa (takeColumns takeNat takeValues takeInt)
theorem litW {s : String} (h : s ∈ wordsL) : TokLit "word" (Str.ofString s) (.name (word s)) := .inl ⟨s, h, rfl, rfl, rfl⟩
theorem lit_comma : TokLit "sign" "," (.sign 44) := .inr ⟨44, rfl, rfl, by decide +kernel⟩
theorem lit_colon : TokLit "sign" ":" (.sign 58) := .inr ⟨58, rfl, rfl, by decide +kernel⟩
theorem lit_semi : TokLit "sign" ";" (.sign 59) := .inr ⟨59, rfl, rfl, by decide +kernel⟩
theorem lit_minus : TokLit "sign" "-" (.sign 45) := .inr ⟨45, rfl, rfl, by decide +kernel⟩
theorem takeSign_ok {c : Nat} {l : Toks} (h : next (.sign c) l = true) : takeSign c l = .ok (l.drop 1) := if_pos h
theorem takeSign_no {c : Nat} {l : Toks} (h : next (.sign c) l = false) : takeSign c l = .error ⟨3, here l⟩ := if_neg (by rw [h]; simp)
theorem takeWord_ok {s : String} {l : Toks} (h : next (.name (word s)) l = true) : takeWord s l = .ok (l.drop 1) := if_pos h
theorem takeWord_no {s : String} {l : Toks} (h : next (.name (word s)) l = false) : takeWord s l = .error ⟨3, here l⟩ := if_neg (by rw [h]; simp)
theorem next_pos {t : STok} {l : Toks} (h : next t l = true) : 1 ≤ l.length := by
  cases l with
  | nil => cases h
  | cons _ _ => simp
theorem takeName_len {l : Toks} {x : PName × Toks} (h : takeName l = .ok x) : x.2.length + 1 = l.length := by
  unfold takeName at h
  split at h
  · split at h
    · cases h
    · injection h with h
      rw [← h]
      rfl
  · cases h
theorem colOf_len {cs cs' : List Bytes} {l l' : Toks} (h : colOf cs l = .ok (cs', l')) : l'.length + 1 = l.length ∧ cs'.length = cs.length + 1 ∧ cs'.length ≤ 4 := by
  unfold colOf at h
  cases e : takeName l with
  | error f => rw [e] at h; cases h
  | ok x =>
    have hl := takeName_len e
    rw [e] at h
    have h : (if Vamvsa.COLUMNS ≤ cs.length then (.error ⟨4, x.1.place⟩ : Except VamvsBase.Fault (List Bytes × Toks)) else if cs.contains x.1.name = true then .error ⟨5, x.1.place⟩ else .ok (cs ++ [x.1.name], x.2)) = .ok (cs', l') := h
    split at h
    · cases h
    · rename_i hc
      have hc : ¬ 4 ≤ cs.length := hc
      split at h
      · cases h
      · injection h with h
        injection h with h1 h2
        rw [← h1, ← h2, List.length_append, List.length_singleton]
        exact ⟨hl, rfl, by omega⟩
def tailC (n : Nat) (cs : List Bytes) (l : Toks) : Except VamvsBase.Fault (List Bytes × Toks) := if next (.sign 44) l = true then takeColumns n cs (l.drop 1) else (takeSign 59 l).map fun m => (cs, m)
theorem takeColumns_succ (n : Nat) (cs : List Bytes) (l : Toks) : takeColumns (n + 1) cs l = (colOf cs l).bind fun p => tailC n p.1 p.2 := by
  unfold takeColumns colOf
  cases takeName l with
  | error f => rfl
  | ok x =>
    show (if Vamvsa.COLUMNS ≤ cs.length then _ else if cs.contains x.1.name = true then _ else _) = Except.bind (if Vamvsa.COLUMNS ≤ cs.length then _ else if cs.contains x.1.name = true then _ else _) _
    split
    · rfl
    · split
      · rfl
      · rfl
def colsOf (l : Toks) : Except VamvsBase.Fault (List Bytes × Toks) := (takeWord "columns" l).bind fun r => takeColumns (r.length + 1) [] r
def sp_read_columns (K : PySem.W.Frag) : Sp := fun vs H Q E => ∃ (r ta : Addr) (G : Hp) (l : Toks) (cl rl ql : Addr), vs = [.ref r, .ref ta] ∧ TbI K G ta cl rl ql ∧ RdAt K G H r l ∧ H cl = some (.lst []) ∧ G cl = none ∧
  (∀ cs l', colsOf l = .ok (cs, l') → ∀ (H' : Hp) (as : List Addr), RdAt K G H' r l' → But [r, cl] H H' → H' cl = some (.lst (as.map V.ref)) → Al2 (ColA G) as cs → 1 ≤ cs.length ∧ cs.length ≤ 4 → Q .non H') ∧ (∀ f, colsOf l = .error f → Flt K [r, cl] H E f.code f.place)
theorem sc_read_columns : FnScope ["reader", "table"] ["reader", "table"] (defScope (top 74)) := ⟨rfl, rfl, rfl, by decide +kernel, rfl, by decide +kernel, by decide +kernel⟩
theorem ok_read_columns (T : Txt K mg) : Def P w K mg base (L2.CX P w) 6 "read_columns" ["reader", "table"] (sp_read_columns K) := by
  obtain ⟨fd, F⟩ := fd_read_columns T
  refine Def.mk' F sc_read_columns (gl_read_columns T) (fun vs H Q E h => by obtain ⟨_, _, _, _, _, _, _, rfl, _⟩ := h; rfl) (fun _ _ _ _ _ _ us hl => match us, hl with | [_, _], _ => rfl) fun cdv A outer s H vs Q E hr h => ?_
  refine ⟨_, pss_cons (ps_expr (Def.callX (ok_want T) hr (by decide) (takes_of rfl rfl rfl rfl) (pa_cons (pv 0) (pa_cons (pe_gs (st_WORD T)) (pa_cons pe_str pa_nil)))))
    (pss_cons (ps_expr (Def.callX (ok_read_column T) hr (by decide) (takes_of rfl rfl rfl rfl) (pa_cons (pv 0) (pa_cons (pv 1) pa_nil))))
    (pss_cons (ps_while (passes_of rfl) (pt_val (Def.call (ok_comes T) hr (by decide) (pa_cons (pv 0) (pa_cons (pe_gs (st_SIGN T)) (pa_cons pe_str pa_nil)))))
      (pss_one (ps_expr (Def.callX (ok_read_column T) hr (by decide) (takes_of rfl rfl rfl rfl) (pa_cons (pv 0) (pa_cons (pv 1) pa_nil))))))
    (pss_one (ps_expr (Def.callX (ok_want T) hr (by decide) (takes_of rfl rfl rfl rfl) (pa_cons (pv 0) (pa_cons (pe_gs (st_SIGN T)) (pa_cons pe_str pa_nil)))))))), ?_⟩
  obtain ⟨r, ta, G, l, cl, rl, ql, rfl, ⟨tdx, hta⟩, R, hcl, hncl, hq, he⟩ := h
  refine ⟨_, rfl, r, _, _, _, G, l, rfl, litW (s := "columns") (by decide), R, fun hn => ?_, fun hn H1 R1 b1 => ?_⟩
  · refine (he ⟨3, here l⟩ ?_).up (But.refl _ _) (by simp)
    unfold colsOf
    rw [takeWord_no hn]
    rfl
  · have hw : colsOf l = takeColumns ((l.drop 1).length + 1) [] (l.drop 1) := by
      unfold colsOf
      rw [takeWord_ok hn]
      rfl
    rw [hw, takeColumns_succ] at hq he
    generalize l.drop 1 = l1 at R1 hq he
    have hcl1 := b1 _ _ hcl (by simpa using R.ne hcl)
    have b1' : But [r, cl] H H1 := b1.mono (by simp)
    refine ⟨_, rfl, _, rfl, r, ta, G, l1, cl, rl, ql, [], [], rfl, ⟨tdx, hta⟩, R1, hcl1, trivial, hncl, by simp, fun cs2 l2 e2 H2 t R2 b2 hcl2 hc2 => ?_, fun f hf => (he f (by rw [hf]; rfl)).up b1' (by simp)⟩
    have hl2 := colOf_len e2
    rw [e2] at hq he
    have hq : ∀ cs l', tailC l1.length cs2 l2 = .ok (cs, l') → _ := hq
    have he : ∀ f, tailC l1.length cs2 l2 = .error f → _ := he
    refine ⟨fun m σ H3 => ∃ cs3 l3 as n, m = l3.length ∧ l3.length ≤ n ∧ σ = [some (.ref r), some (.ref ta)] ∧ RdAt K G H3 r l3 ∧ But [r, cl] H H3 ∧ H3 cl = some (.lst (as.map V.ref)) ∧ Al2 (ColA G) as cs3 ∧ tailC l1.length cs2 l2 = tailC n cs3 l3 ∧ 1 ≤ cs3.length ∧ cs3.length ≤ 4,
      ⟨_, cs2, l2, _, l1.length, rfl, by omega, rfl, R2, b1'.trans b2, hcl2, hc2, rfl, by omega, by omega⟩, ?_⟩
    rintro m σ H3 ⟨cs3, l3, as, n, rfl, hn3, rfl, R3, b3, hcl3, hc3, heq, h1, h4⟩
    rw [heq] at hq he
    refine ⟨_, rfl, r, _, _, _, G, l3, rfl, lit_comma, R3, fun hk => ⟨_, rfl, ifF rfl ?_⟩, fun hk H4 R4 b4 => ⟨_, rfl, ifT rfl ⟨_, fun _ _ z => z, ?_⟩⟩⟩
    · have ht : tailC n cs3 l3 = (takeSign 59 l3).map fun m => (cs3, m) := if_neg (by rw [hk]; simp)
      rw [ht] at hq he
      refine ⟨_, rfl, r, _, _, _, G, l3, rfl, lit_semi, R3, fun hs => (he ⟨3, here l3⟩ (by rw [takeSign_no hs]; rfl)).up b3 (by simp), fun hs H5 R5 b5 => ?_⟩
      refine hq cs3 (l3.drop 1) (by rw [takeSign_ok hs]; rfl) H5 as R5 (b3.trans (b5.mono (by simp))) (b5 _ _ hcl3 (by simpa using R3.ne hcl3)) hc3 ⟨h1, h4⟩
    · have hp := next_pos hk
      obtain ⟨n, rfl⟩ : ∃ k, n = k + 1 := ⟨n - 1, by omega⟩
      have ht : tailC (n + 1) cs3 l3 = takeColumns (n + 1) cs3 (l3.drop 1) := if_pos hk
      rw [ht, takeColumns_succ] at hq he heq
      have hcl4 := b4 _ _ hcl3 (by simpa using R3.ne hcl3)
      have b4' : But [r, cl] H H4 := b3.trans (b4.mono (by simp))
      refine ⟨_, rfl, _, rfl, r, ta, G, l3.drop 1, cl, rl, ql, cs3, as, rfl, ⟨tdx, hta⟩, R4, hcl4, hc3, hncl, h4, fun cs5 l5 e5 H5 t R5 b5 hcl5 hc5 => ?_, fun f hf => (he f (by rw [hf]; rfl)).up b4' (by simp)⟩
      have hl5 := colOf_len e5
      rw [List.length_drop] at hl5
      rw [e5] at heq
      exact ⟨l5.length, by omega, cs5, l5, _, n, rfl, by omega, rfl, R5, b4'.trans b5, hcl5, hc5, heq, by omega, hl5.2.2⟩
end
end Bw
set_option Elab.async false
set_option linter.all false
set_option maxRecDepth 100000
set_option maxHeartbeats 4000000
namespace Bw
open PySem PySem.Spec PyProof.Rows L2
section
variable {P : Program} {w : World} {K : PySem.W.Frag} {mg : Str → Option Value} {base : Heap}
open VamvsBase (PTok Toks Bytes PName token numberOf decimal word RESERVED lex here next tokEq takeName takeWord takeSign wrong)
open Vamvsa (takeColumns takeNat takeValues takeInt)
theorem takeNat_num {most q n : Nat} {l : Toks} : takeNat most (⟨q, .num n⟩ :: l) = if most < n then .error ⟨7, q⟩ else .ok (n, l) := rfl
theorem takeNat_no {most : Nat} {l : Toks} (h : ∀ q n l', l ≠ ⟨q, .num n⟩ :: l') : takeNat most l = .error ⟨3, here l⟩ := by
  cases l with
  | nil => rfl
  | cons t r =>
    obtain ⟨q, tok⟩ := t
    cases tok with
    | num n => exact absurd rfl (h q n r)
    | name b => rfl
    | sign c => rfl
    | last => rfl
theorem takeNat_len {most : Nat} {l : Toks} {x : Nat × Toks} (h : takeNat most l = .ok x) : x.2.length + 1 = l.length ∧ x.1 ≤ most := by
  unfold takeNat at h
  split at h
  · split at h
    · cases h
    · injection h with h
      rw [← h]
      exact ⟨rfl, by omega⟩
  · cases h
/-- read_number(reader, 0, most) is the Spec's takeNat -/
theorem num_use {r : Addr} {G H : Hp} {l : Toks} {most : Nat} {mI : Int} {Q : VK} {E : XK} (hmi : mI = (most : Nat)) (R : RdAt K G H r l) (hq : ∀ n l', takeNat most l = .ok (n, l') → ∀ H', RdAt K G H' r l' → But [r] H H' → Q (.int (n : Nat)) H')
    (he : ∀ f, takeNat most l = .error f → Flt K [] H E f.code f.place) : sp_read_number K [.ref r, .int 0, .int mI] H Q E := by
  subst hmi
  refine ⟨r, 0, most, G, l, rfl, R, fun q n l' e hb H' R' b => ?_, fun q n l' e hb => ?_, fun hno => he ⟨3, here l⟩ (takeNat_no hno)⟩
  · exact hq n l' (by rw [e, takeNat_num, if_neg (by omega)]) H' R' b
  · exact he ⟨7, q⟩ (by rw [e, takeNat_num, if_pos (by omega)])
def natV (l : List Nat) : List V := l.map fun n => V.int (n : Nat)
/-- a new row at p -/
def RowN (K : PySem.W.Frag) (H H' : Hp) (p : Addr) (row : Vamvsa.Row) : Prop := ∃ dx ce, H p = none ∧ H ce = none ∧ H' p = some (.ins (He.ga K "Row") dx (rowF (.ref ce) (.int row.m))) ∧ H' ce = some (.lst (natV row.vs))
def rowOf (w : Nat) (l : Toks) : Except VamvsBase.Fault (Vamvsa.Row × Toks) := (takeValues w [] l).bind fun v => (takeSign 58 v.2).bind fun r => (takeInt r).bind fun x => (takeSign 59 x.2).map fun m => (⟨v.1, x.1⟩, m)
theorem takeInt_eq (l : Toks) : takeInt l = (takeNat 1000 (if next (.sign 45) l = true then l.drop 1 else l)).map fun x => (if next (.sign 45) l = true then -(x.1 : Int) else (x.1 : Int), x.2) := rfl
theorem vals_step (n : Nat) (vs : List Nat) (l : Toks) : takeValues (n + 1) vs l = (if vs.isEmpty = true then .ok l else takeSign 44 l).bind fun r => (takeNat 9 r).bind fun x => takeValues n (vs ++ [x.1]) x.2 := rfl
theorem takeValues_len : ∀ (n : Nat) (vs : List Nat) (l : Toks) (x : List Nat × Toks), takeValues n vs l = .ok x → x.1.length = vs.length + n ∧ ((∀ v ∈ vs, v ≤ 9) → ∀ v ∈ x.1, v ≤ 9) ∧ x.2.length ≤ l.length
  | 0, vs, l, x, h => by
    have h : Except.ok (vs, l) = Except.ok x := h
    injection h with h
    rw [← h]
    exact ⟨rfl, fun z => z, Nat.le_refl _⟩
  | n + 1, vs, l, x, h => by
    rw [vals_step] at h
    have key : ∀ (r : Toks), r.length ≤ l.length → ((takeNat 9 r).bind fun x => takeValues n (vs ++ [x.1]) x.2) = .ok x → x.1.length = vs.length + (n + 1) ∧ ((∀ v ∈ vs, v ≤ 9) → ∀ v ∈ x.1, v ≤ 9) ∧ x.2.length ≤ l.length := fun r hr h => by
      cases e : takeNat 9 r with
      | error f => rw [e] at h; cases h
      | ok y =>
        rw [e] at h
        obtain ⟨h1, h2, h3⟩ := takeValues_len n (vs ++ [y.1]) y.2 x h
        obtain ⟨h4, h5⟩ := takeNat_len e
        rw [List.length_append, List.length_singleton] at h1
        refine ⟨by omega, fun z => h2 fun v hv => ?_, by omega⟩
        rcases List.mem_append.mp hv with q | q
        · exact z v q
        · rw [show v = y.1 from by simpa using q]
          exact h5
    split at h
    · exact key l (Nat.le_refl _) h
    · cases e : next (.sign 44) l with
      | false => rw [takeSign_no e] at h; cases h
      | true =>
        rw [takeSign_ok e] at h
        exact key (l.drop 1) (by rw [List.length_drop]; omega) h
def sp_read_row (K : PySem.W.Frag) : Sp := fun vs H Q E => ∃ (r ta : Addr) (G : Hp) (l : Toks) (cl rl ql : Addr) (w : Nat) (cv xs : List V), vs = [.ref r, .ref ta] ∧ TbI K G ta cl rl ql ∧ RdAt K G H r l ∧ H cl = some (.lst cv) ∧ cv.length = w ∧ w ≤ 4 ∧ H rl = some (.lst xs) ∧ xs.length ≤ 16 ∧ G rl = none ∧
  (∀ row m, rowOf w l = .ok (row, m) → ∀ (H' : Hp) (p : Addr), RdAt K G H' r m → But [r, rl] H H' → H' rl = some (.lst (xs ++ [.ref p])) → RowN K H H' p row → Q .non H') ∧ (∀ f, rowOf w l = .error f → Flt K [r] H E f.code f.place)
theorem sc_read_row : FnScope ["reader", "table", "cells", "at", "sign", "told"] ["reader", "table"] (defScope (top 76)) := ⟨rfl, rfl, rfl, by decide +kernel, rfl, by decide +kernel, by decide +kernel⟩
theorem ok_read_row (T : Txt K mg) : Def P w K mg base (L2.CX P w) 6 "read_row" ["reader", "table"] (sp_read_row K) := by
  obtain ⟨fd, F⟩ := fd_read_row T
  refine Def.mk' F sc_read_row (gl_read_row T) (fun vs H Q E h => by obtain ⟨_, _, _, _, _, _, _, _, _, _, rfl, _⟩ := h; rfl) (fun _ _ _ _ _ _ us hl => match us, hl with | [_, _], _ => rfl) fun cdv A outer s H vs Q E hr h => ?_
  refine ⟨_, pss_cons (ps_set (i := 2) sc_read_row.nd rfl (Or.inl rfl) (pe_lst pa_nil))
    (pss_cons (ps_for (passes_of rfl) rfl (pi_range1 rfl (fr_range T) (pa_cons (pe_callB call_len_seq (by rfl) (fr_len T) PySem.boot_len (pa_cons (pe_fld (pv 1) rfl) pa_nil)) pa_nil)) (pg_name (i := 3) sc_read_row.nd rfl (Or.inl rfl))
      (pss_cons (ps_if (pt_cmpR op_gt (pv 3) pe_int (nomark _))
        (pss_one (ps_expr (Def.callX (ok_want T) hr (by decide) (takes_of rfl rfl rfl rfl) (pa_cons (pv 0) (pa_cons (pe_gs (st_SIGN T)) (pa_cons pe_str pa_nil))))))
        (pss_nil))
      (pss_one (ps_expr (pe_bm PySem.F.plainAttrs_list PySem.F.slot_list_append PySem.F.type_list_append mt_append (pv 2) (pa_cons (Def.callX (ok_read_number T) hr (by decide) (takes_of rfl rfl rfl rfl) (pa_cons (pv 0) (pa_cons pe_int (pa_cons (pe_gi (in_MOST_VALUE T)) pa_nil)))) pa_nil))))))
    (pss_cons (ps_expr (Def.callX (ok_want T) hr (by decide) (takes_of rfl rfl rfl rfl) (pa_cons (pv 0) (pa_cons (pe_gs (st_SIGN T)) (pa_cons pe_str pa_nil)))))
    (pss_cons (ps_set (i := 4) sc_read_row.nd rfl (Or.inl rfl) (pe_op op_sub pe_int (pe_op op_mul pe_int (pe_callTy call_int1 (by rfl) (fr_int T) PyProof.Rows.boot_int (pa_cons (Def.call (ok_comes T) hr (by decide) (pa_cons (pv 0) (pa_cons (pe_gs (st_SIGN T)) (pa_cons pe_str pa_nil)))) pa_nil)))))
    (pss_cons (ps_set (i := 5) sc_read_row.nd rfl (Or.inl rfl) (pe_op op_mul (pv 4) (Def.callX (ok_read_number T) hr (by decide) (takes_of rfl rfl rfl rfl) (pa_cons (pv 0) (pa_cons pe_int (pa_cons (pe_gi (in_MOST_SUM T)) pa_nil))))))
    (pss_cons (ps_expr (Def.callX (ok_want T) hr (by decide) (takes_of rfl rfl rfl rfl) (pa_cons (pv 0) (pa_cons (pe_gs (st_SIGN T)) (pa_cons pe_str pa_nil)))))
    (pss_one (ps_expr (pe_bm PySem.F.plainAttrs_list PySem.F.slot_list_append PySem.F.type_list_append mt_append (pe_fld (pv 1) rfl) (pa_cons (DefC.make (ok_Row_init T) hr (by decide) (pa_cons (pv 2) (pa_cons (pv 5) pa_nil))) pa_nil))))))))), ?_⟩
  obtain ⟨r, ta, G, l, cl, rl, ql, w, cv, xs, rfl, ⟨tdx, hta⟩, R, hcl, hcw, hw4, hrl, hxs, hnrl, hq, he⟩ := h
  have hrr := R.ne hrl
  refine ⟨by show 0 ≤ sizeLine; decide, fun D hD => ?_⟩
  have hGD : ∀ {H' : Hp}, Same G H' → H' D = none → G D = none := fun s n => s.free n
  have hnD := R.same.free hD
  have hDr : D ≠ r := fun z => by
    obtain ⟨_, _, _, _, _, X⟩ := R
    rw [z, X.ins] at hD
    cases hD
  have hDrl : D ≠ rl := fun z => by rw [z, hrl] at hD; cases hD
  have hDcl : D ≠ cl := fun z => by rw [z, hcl] at hD; cases hD
  have R0 : RdAt K G (upd H D (.lst [])) r l := R.putL hnD hDr
  have hta0 : ∀ {H' : Hp}, Same G H' → H' ta = some (.ins (He.ga K "Table") tdx (tbF (.ref cl) (.ref rl) (.ref ql))) := fun s => s _ _ hta
  refine ⟨_, rfl, _, _, _, _, _, rfl, hta0 R0.same, cl_Table T, na_Table_columns T, tb_columns, _, _, rfl, .inl (SqL.of (by rw [upd_ne (Ne.symm hDcl)]; exact hcl)), _, rfl, by omega, by omega, ?_⟩
  rw [hcw, Int.toNat_natCast]
  refine for_range (lo := 0) (n := w) (fun i σ H' => ∃ vs li v, vs.length = i ∧ σ = [some (.ref r), some (.ref ta), some (.ref D), v, none, none] ∧ RdAt K G H' r li ∧ But [r] H H' ∧ H' D = some (.lst (natV vs)) ∧ takeValues w [] l = takeValues (w - i) vs li)
    ⟨[], l, none, rfl, rfl, R0, .new hD, upd_same, rfl⟩ ?_ ?_
  · rintro i σ H1 hi ⟨vs, li, v, hvs, rfl, R1, b1, hD1, heq⟩
    obtain ⟨n, hn⟩ : ∃ n, w - i = n + 1 := ⟨w - i - 1, by omega⟩
    rw [hn, vals_step] at heq
    -- the number, wherever it stands
    have number : ∀ (H2 : Hp) (l2 : Toks), RdAt K G H2 r l2 → But [r] H H2 → H2 D = some (.lst (natV vs)) → (takeValues w [] l = (takeNat 9 l2).bind fun x => takeValues n (vs ++ [x.1]) x.2) →
        tDrop (tBM K "list" rAppend (tVar 2) (tCons (tCallS (sp_read_number K) (WE fun cls d _ H => E cls d H) (tCons (tVar 0) (tCons (tC (.int 0)) (tCons (tC (.int 9)) tNil)))) tNil))
          { nx := fun σ H' => ∃ vs li v, vs.length = i + 1 ∧ σ = [some (.ref r), some (.ref ta), some (.ref D), v, none, none] ∧ RdAt K G H' r li ∧ But [r] H H' ∧ H' D = some (.lst (natV vs)) ∧ takeValues w [] l = takeValues (w - (i + 1)) vs li, rt := Q }
          [some (.ref r), some (.ref ta), some (.ref D), some (.int (0 + (i : Int))), none, none] H2 := fun H2 l2 R2 b2 hD2 heq2 => by
      refine ⟨_, rfl, .inl ⟨rfl, _, SqL.of hD2⟩, _, rfl, ?_⟩
      dsimp only [tCons, tC, tNil]
      refine num_use (most := 9) (mI := 9) rfl R2 (fun m l3 hm H3 R3 b3 => ?_) fun f hf => ?_
      · have hD3 := b3 _ _ hD2 (by simpa using hDr)
        refine ⟨_, _, _, rfl, rfl, hD3, ?_, vs ++ [m], l3, _, by rw [List.length_append, hvs]; rfl, rfl, R3.putL hnD hDr, ?_, ?_, ?_⟩
        · unfold natV
          rw [List.length_map, hvs, sizeLine_eq]
          omega
        · intro b o e hb
          rw [upd_ne (ne_of_none e hD)]
          exact b3 b o (b2 b o e hb) hb
        · rw [upd_same]
          unfold natV
          rw [List.map_append]
          rfl
        · rw [heq2, hm, show w - (i + 1) = n by omega]
          rfl
      · refine ((he f ?_).up b2 (by simp))
        unfold rowOf
        rw [heq2, hf]
        rfl
    refine ⟨_, rfl, _, _, rfl, rfl, _, rfl, ?_⟩
    by_cases c : i = 0
    · have hve : vs.isEmpty = true := by
        cases vs with
        | nil => rfl
        | cons a b => simp at hvs; omega
      rw [if_pos hve] at heq
      exact ifF (decide_eq_false (by omega)) (number H1 li R1 b1 hD1 heq)
    · have hve : ¬ vs.isEmpty = true := by
        cases vs with
        | nil => simp at hvs; omega
        | cons a b => simp
      rw [if_neg hve] at heq
      refine ifT (decide_eq_true (by omega)) ⟨_, rfl, r, _, _, _, G, li, rfl, lit_comma, R1, fun hk => ?_, fun hk H2 R2 b2 => ?_⟩
      · refine (he ⟨3, here li⟩ ?_).up b1 (by simp)
        unfold rowOf
        rw [heq, takeSign_no hk]
        rfl
      · refine number H2 _ R2 (b1.trans b2) (b2 _ _ hD1 (by simpa using hDr)) ?_
        rw [heq, takeSign_ok hk]
        rfl
  · rintro σ H1 ⟨vs, li, v, hvs, rfl, R1, b1, hD1, heq⟩
    have heq : takeValues w [] l = .ok (vs, li) := by
      rw [heq, Nat.sub_self]
      rfl
    have hro : rowOf w l = (takeSign 58 li).bind fun r => (takeInt r).bind fun x => (takeSign 59 x.2).map fun m => (⟨vs, x.1⟩, m) := by
      unfold rowOf
      rw [heq]
      rfl
    rw [hro] at hq he
    refine ⟨_, rfl, r, _, _, _, G, li, rfl, lit_colon, R1, fun hk => (he ⟨3, here li⟩ (by rw [takeSign_no hk]; rfl)).up b1 (by simp), fun hk H2 R2 b2 => ?_⟩
    rw [takeSign_ok hk] at hq he
    have hq : ∀ row m, ((takeInt (li.drop 1)).bind fun x => (takeSign 59 x.2).map fun m => ((⟨vs, x.1⟩ : Vamvsa.Row), m)) = .ok (row, m) → _ := hq
    have he : ∀ f, ((takeInt (li.drop 1)).bind fun x => (takeSign 59 x.2).map fun m => ((⟨vs, x.1⟩ : Vamvsa.Row), m)) = .error f → _ := he
    generalize li.drop 1 = l2 at R2 hq he
    rw [takeInt_eq] at hq he
    have bb2 := b1.trans b2
    have hD2 := b2 _ _ hD1 (by simpa using hDr)
    -- behind the sign
    have more : ∀ (sg : Int) (H3 : Hp) (l3 : Toks), (sg = 1 ∨ sg = -1) → RdAt K G H3 r l3 → But [r] H H3 → H3 D = some (.lst (natV vs)) →
        (∀ row m, (((takeNat 1000 l3).map fun x => (sg * (x.1 : Int), x.2)).bind fun x => (takeSign 59 x.2).map fun m => ((⟨vs, x.1⟩ : Vamvsa.Row), m)) = .ok (row, m) → ∀ (H' : Hp) (p : Addr), RdAt K G H' r m → But [r, rl] H H' → H' rl = some (.lst (xs ++ [.ref p])) → RowN K H H' p row → Q .non H') →
        (∀ f, (((takeNat 1000 l3).map fun x => (sg * (x.1 : Int), x.2)).bind fun x => (takeSign 59 x.2).map fun m => ((⟨vs, x.1⟩ : Vamvsa.Row), m)) = .error f → Flt K [r] H E f.code f.place) →
        tSeq (tAsg (tOp (rI CMul fun i j => V.int (i * j)) (tVar 4) (tCallS (sp_read_number K) (WE fun cls d _ H => E cls d H) (tCons (tVar 0) (tCons (tC (.int 0)) (tCons (tC (.int 1000)) tNil))))) (gName 5))
          (tSeq (tDrop (tCallS (sp_want K) (WE fun cls d _ H => E cls d H) (tCons (tVar 0) (tCons (tC (.str "sign")) (tCons (tC (.str ";")) tNil)))))
            (tDrop (tBM K "list" rAppend (tFld K (tVar 1) "rows") (tCons (tMake (He.ga K "Row") (sp_Row_init K) [] E0 (tCons (tVar 2) (tCons (tVar 5) tNil))) tNil))))
          { nx := fun _ H' => Q .non H', rt := Q } [some (.ref r), some (.ref ta), some (.ref D), v, some (.int sg), none] H3 := fun sg H3 l3 hsg R3 b3 hD3 hq he => by
      refine ⟨_, rfl, _, rfl, ?_⟩
      dsimp only [tCons, tC, tNil]
      refine num_use (most := 1000) (mI := 1000) rfl R3 (fun n l4 hn H4 R4 b4 => ?_) fun f hf => (he f (by rw [hf]; rfl)).up b3 (by simp)
      rw [hn] at hq he
      have hq : ∀ row m, ((takeSign 59 l4).map fun m => ((⟨vs, sg * (n : Int)⟩ : Vamvsa.Row), m)) = .ok (row, m) → _ := hq
      have he : ∀ f, ((takeSign 59 l4).map fun m => ((⟨vs, sg * (n : Int)⟩ : Vamvsa.Row), m)) = .error f → _ := he
      have bb4 := b3.trans b4
      refine ⟨_, _, rfl, rfl, .inl (by rcases hsg with rfl | rfl <;> decide), _, rfl, r, _, _, _, G, l4, rfl, lit_semi, R4, fun hk => (he ⟨3, here l4⟩ (by rw [takeSign_no hk]; rfl)).up bb4 (by simp), fun hk H5 R5 b5 => ?_⟩
      have bb5 := bb4.trans b5
      have hD5 : H5 D = some (.lst (natV vs)) := b5 _ _ (b4 _ _ hD3 (by simpa using hDr)) (by simpa using hDr)
      have hrl5 := bb5 _ _ hrl (by simpa using hrr)
      refine ⟨_, rfl, _, _, _, _, _, rfl, hta0 R5.same, cl_Table T, na_Table_rows T, tb_rows, .inl ⟨rfl, _, SqL.of hrl5⟩, _, rfl, _, rfl, ?_⟩
      dsimp only [tCons, tNil]
      refine row_made (Q := fun v H2 => rAppend (.ref rl) [v] H2 fun _ H1 => Q .non H1) fun H6 p hs6 np hp => ?_
      obtain ⟨pdx, hp⟩ := hp
      have hprl : p ≠ rl := fun z => by rw [z, hrl5] at np; cases np
      refine ⟨_, _, _, rfl, rfl, hs6 _ _ hrl5, ?_, hq _ (l4.drop 1) (by rw [takeSign_ok hk]; rfl) _ p ((R5.up (fun _ _ e => e) (by obtain ⟨_, _, _, _, _, X⟩ := R5; exact X.nor) (fun b o e => hs6 b o (R5.same b o e)) (fun o e => hs6 _ _ e)).putL hnrl hrr) ?_ ?_ ?_⟩
      · rw [sizeLine_eq]
        omega
      · exact ((bb5.mono (by simp)).trans (.of_same hs6)).trans (.put (by simp))
      · exact upd_same
      · have np0 : H p = none := by
          cases q : H p with
          | none => rfl
          | some o =>
            by_cases hpr : p = r
            · rw [hpr] at np
              obtain ⟨_, _, _, _, _, X⟩ := R5
              rw [X.ins] at np
              cases np
            · rw [bb5 _ _ q (by simpa using hpr)] at np
              cases np
        exact ⟨pdx, D, np0, hD, by rw [upd_ne hprl]; exact hp, by rw [upd_ne hDrl]; exact hs6 _ _ hD5⟩
    refine ⟨_, rfl, r, _, _, _, G, l2, rfl, lit_minus, R2, fun hk => .inr ⟨false, rfl, ?_⟩, fun hk H3 R3 b3 => .inr ⟨true, rfl, ?_⟩⟩
    · rw [hk, if_neg Bool.false_ne_true] at hq he
      refine ⟨_, _, rfl, rfl, .inl ⟨by decide, by decide⟩, _, _, rfl, rfl, more 1 H2 l2 (.inl rfl) R2 bb2 hD2 ?_ ?_⟩
      · simpa only [Int.one_mul, if_neg Bool.false_ne_true] using hq
      · simpa only [Int.one_mul, if_neg Bool.false_ne_true] using he
    · rw [hk, if_pos rfl] at hq he
      refine ⟨_, _, rfl, rfl, .inl ⟨by decide, by decide⟩, _, _, rfl, rfl, more (-1) H3 (l2.drop 1) (.inr rfl) R3 (bb2.trans b3) (b3 _ _ hD2 (by simpa using hDr)) ?_ ?_⟩
      · simpa using hq
      · simpa using he
end
end Bw
set_option Elab.async false
set_option linter.all false
set_option maxRecDepth 100000
set_option maxHeartbeats 4000000
namespace Bw
open PySem PySem.Spec PyProof.Rows L2
section
variable {P : Program} {w : World} {K : PySem.W.Frag} {mg : Str → Option Value} {base : Heap}
open VamvsBase (PTok Toks Bytes PName token numberOf decimal word RESERVED lex here next nextWord tokEq takeName takeWord takeSign wrong)
open Vamvsa (takeColumns takeNat takeValues takeInt takeAsked takeTimes takeAsk)
def askOne (cs : List Bytes) (g : Nat) (l : Toks) : Except VamvsBase.Fault (Nat × Toks) := (takeName l).bind fun x => match cs.findIdx? fun c => c == x.1.name with
  | none => .error ⟨8, x.1.place⟩
  | some i => if g / 2 ^ i % 2 = 1 then .error ⟨6, x.1.place⟩ else .ok (g + 2 ^ i, x.2)
theorem findIdx_none {cs : List Bytes} {b : Bytes} (h : cs.contains b = false) : (cs.findIdx? fun c => c == b) = none := by
  rw [List.findIdx?_eq_none_iff]
  intro c hc
  refine beq_eq_false_iff_ne.mpr fun e => ?_
  have : cs.contains b = true := by rw [List.contains_iff_mem, ← e]; exact hc
  rw [h] at this
  cases this
theorem findIdx_some {cs : List Bytes} {b : Bytes} (h : cs.contains b = true) : ∃ j, (cs.findIdx? fun c => c == b) = some j ∧ j < cs.length ∧ cs[j]? = some b ∧ ∀ m z, m < j → cs[m]? = some z → z ≠ b := by
  cases e : cs.findIdx? fun c => c == b with
  | none =>
    rw [List.findIdx?_eq_none_iff] at e
    rw [List.contains_iff_mem] at h
    have := e b h
    simp at this
  | some j =>
    rw [List.findIdx?_eq_some_iff_getElem] at e
    obtain ⟨hj, h1, h2⟩ := e
    refine ⟨j, rfl, hj, ?_, fun m z hm hz => ?_⟩
    · rw [List.getElem?_eq_getElem hj, eq_of_beq h1]
    · obtain ⟨hm2, hz⟩ := List.getElem?_eq_some_iff.mp hz
      have h3 := h2 m hm
      rw [hz] at h3
      intro q
      rw [q] at h3
      simp at h3
def sp_read_asked (K : PySem.W.Frag) : Sp := fun vs H Q E => ∃ (r ta : Addr) (g : Nat) (G : Hp) (l : Toks) (cl rl ql : Addr) (cs : List Bytes) (as : List Addr), vs = [.ref r, .ref ta, .int g] ∧ TbI K G ta cl rl ql ∧ RdAt K G H r l ∧ H cl = some (.lst (as.map V.ref)) ∧ Al2 (ColA G) as cs ∧ cs.length ≤ 4 ∧
  (∀ g' l', askOne cs g l = .ok (g', l') → ∀ H', RdAt K G H' r l' → But [r] H H' → Q (.int (g' : Nat)) H') ∧ (∀ f, askOne cs g l = .error f → Flt K [] H E f.code f.place)
theorem sc_read_asked : FnScope ["reader", "table", "grouping", "name", "bit"] ["reader", "table", "grouping"] (defScope (top 77)) := ⟨rfl, rfl, rfl, by decide +kernel, rfl, by decide +kernel, by decide +kernel⟩
theorem ok_read_asked (T : Txt K mg) : Def P w K mg base (L2.CX P w) 5 "read_asked" ["reader", "table", "grouping"] (sp_read_asked K) := by
  obtain ⟨fd, F⟩ := fd_read_asked T
  refine Def.mk' F sc_read_asked (gl_read_asked T) (fun vs H Q E h => by obtain ⟨_, _, _, _, _, _, _, _, _, _, rfl, _⟩ := h; rfl) (fun _ _ _ _ _ _ us hl => match us, hl with | [_, _, _], _ => rfl) fun cdv A outer s H vs Q E hr h => ?_
  refine ⟨_, pss_cons (ps_set (i := 3) sc_read_asked.nd rfl (Or.inl rfl) (Def.callX (ok_told_next T) hr (by decide) (takes_of rfl rfl rfl rfl) (pa_cons (pv 0) (pa_cons (pe_gs (st_NAME T)) pa_nil))))
    (pss_cons (ps_expr (Def.callX (ok_fault_if T) hr (by decide) (takes_of rfl rfl rfl rfl) (pa_cons (pv 0) (pa_cons (pe_cmpR (op_notInD (hr65 hr)) (pv 3) (pe_fld (pv 1) rfl) (by rfl)) (pa_cons (pe_gi (in_NO_COLUMN T)) pa_nil)))))
    (pss_cons (ps_set (i := 4) sc_read_asked.nd rfl (Or.inl rfl) (pe_op op_shl pe_int (pe_bm PySem.F.plainAttrs_list PySem.F.slot_list_index PySem.F.type_list_index (mt_indexD (hr65 hr)) (pe_fld (pv 1) rfl) (pa_cons (pv 3) pa_nil))))
    (pss_cons (ps_expr (Def.callX (ok_fault_if T) hr (by decide) (takes_of rfl rfl rfl rfl) (pa_cons (pv 0) (pa_cons (pe_cmpR op_ne (pe_op op_mul (pe_op op_fdiv (pe_op op_fdiv (pv 2) (pv 4)) pe_int) pe_int) (pe_op op_fdiv (pv 2) (pv 4)) (nomark _)) (pa_cons (pe_gi (in_TWICE T)) pa_nil)))))
    (pss_cons (ps_expr (Def.call (ok_take T) hr (by decide) (pa_cons (pv 0) pa_nil)))
    (pss_one (ps_ret (pe_op op_add (pv 2) (pv 4)))))))), ?_⟩
  obtain ⟨r, ta, g, G, l, cl, rl, ql, cs, as, rfl, ⟨tdx, hta⟩, R, hcl, hcols, h4, hq, he⟩ := h
  have hlen := hcols.len
  refine ⟨_, rfl, r, _, G, l, rfl, R, fun hf => he ⟨3, here l⟩ ?_, fun t l' v e hf hv => ?_⟩
  · unfold askOne
    rw [takeName_no hf]
    rfl
  · obtain ⟨q, b, r', rfl, hres⟩ := head_name hf
    cases e
    obtain ⟨x, rfl, hx⟩ := hv.nameV
    have hco : askOne cs g (⟨q, .name b⟩ :: l') = match cs.findIdx? fun c => c == b with
        | none => .error ⟨8, q⟩
        | some i => if g / 2 ^ i % 2 = 1 then .error ⟨6, q⟩ else .ok (g + 2 ^ i, l') := by
      unfold askOne
      rw [takeName_ok hres]
      rfl
    rw [hco] at hq he
    refine ⟨_, rfl, _, rfl, _, rfl, _, _, _, _, _, rfl, R.same _ _ hta, cl_Table T, na_Table_columns T, tb_columns, .tuple (dI (byV b)), colsD cs, .tup (SqT.of (R.same _ _ hx)) (dp_ints _), .lst (SqL.of hcl) (dp_cols R.same hcols), shaped_tup _, shaped_cols _, r, _, 8, G, _, rfl, R, fun hb => ?_, fun hb => ?_⟩
    · rw [any_cols] at hb
      have hb : cs.contains b = true := by simpa using hb
      obtain ⟨j, hj1, hj2, hj3, hj4⟩ := findIdx_some hb
      rw [hj1] at hq he
      have hd : (colsD cs)[j]? = some (.tuple (dI (byV b))) := by
        unfold colsD
        rw [List.getElem?_map, hj3]
        rfl
      refine ⟨_, rfl, _, _, _, _, _, rfl, R.same _ _ hta, cl_Table T, na_Table_columns T, tb_columns, .inl ⟨rfl, _, SqL.of hcl⟩, _, rfl, _, _, .tuple (dI (byV b)), colsD cs, j, _, rfl, rfl, .lst (SqL.of hcl) (dp_cols R.same hcols), .tup (SqT.of (R.same _ _ hx)) (dp_ints _), shaped_cols _, shaped_tup _, hd, ?_, fun m z hm hz => ?_, ?_⟩
      · rw [eqv_name]; simp
      · unfold colsD at hz
        rw [List.getElem?_map] at hz
        cases ez : cs[m]? with
        | none => rw [ez] at hz; cases hz
        | some c =>
          rw [ez] at hz
          have hz : PyData.tuple (dI (byV c)) = z := Option.some.inj hz
          rw [← hz, eqv_name]
          exact beq_eq_false_iff_ne.mpr (hj4 m c hm ez)
      · refine ⟨_, _, rfl, rfl, ⟨by omega, by omega, by decide⟩, ?_⟩
        have eB : (1 : Int) * 2 ^ ((j : Nat) : Int).toNat = ((2 ^ j : Nat) : Int) := by rw [Int.one_mul, Int.toNat_natCast, Int.natCast_pow]; rfl
        have eB2 : (fun (i j : Int) => V.int (i * 2 ^ j.toNat)) 1 ((j : Nat) : Int) = V.int ((2 ^ j : Nat) : Int) := congrArg V.int eB
        rw [eB2]
        have hB0 : (0 : Int) < ((2 ^ j : Nat) : Int) := by have := Nat.two_pow_pos j; omega
        have hB1 : ((2 ^ j : Nat) : Int) < 1073741824 := by
          have h5 : 2 ^ j < 2 ^ 4 := Nat.pow_lt_pow_right (by omega) (by omega)
          omega
        have eD : (g : Int) / ((2 ^ j : Nat) : Int) = ((g / 2 ^ j : Nat) : Int) := (Int.natCast_ediv g (2 ^ j)).symm
        refine ⟨_, rfl, _, rfl, _, rfl, _, _, rfl, rfl, ⟨hB0, hB1⟩, _, _, rfl, rfl, ⟨by decide, by decide⟩, _, _, rfl, rfl, .inr ⟨by decide, by decide⟩, _, rfl, _, rfl, _, _, rfl, rfl, ⟨hB0, hB1⟩, rfl, r, _, 6, G, _, rfl, R, fun hb2 => ?_, fun hb2 => ?_⟩
        · have hodd : ¬ g / 2 ^ j % 2 = 1 := by
            rw [eD] at hb2
            have hb3 : V.int (((g / 2 ^ j : Nat) : Int) / 2 * 2) = V.int ((g / 2 ^ j : Nat) : Int) := by simpa using hb2
            have hb4 := V.int.inj hb3
            omega
          have hq : ∀ g' l'', (if g / 2 ^ j % 2 = 1 then (.error ⟨6, q⟩ : Except VamvsBase.Fault (Nat × Toks)) else .ok (g + 2 ^ j, l')) = .ok (g', l'') → _ := hq
          rw [if_neg hodd] at hq
          refine ⟨_, rfl, r, G, _, l', rfl, R, (by intro z; cases z), fun f v H1 _ R1 b1 => ?_⟩
          exact ⟨_, rfl, _, rfl, _, _, rfl, rfl, hq _ l' rfl H1 R1 b1⟩
        · have hodd : g / 2 ^ j % 2 = 1 := by
            rw [eD] at hb2
            have hb3 : ¬ V.int (((g / 2 ^ j : Nat) : Int) / 2 * 2) = V.int ((g / 2 ^ j : Nat) : Int) := by simpa using hb2
            have hb4 : ¬ ((g / 2 ^ j : Nat) : Int) / 2 * 2 = ((g / 2 ^ j : Nat) : Int) := fun z => hb3 (congrArg V.int z)
            omega
          have he : ∀ f, (if g / 2 ^ j % 2 = 1 then (.error ⟨6, q⟩ : Except VamvsBase.Fault (Nat × Toks)) else .ok (g + 2 ^ j, l')) = .error f → _ := he
          rw [if_pos hodd] at he
          exact he _ rfl
    · rw [any_cols] at hb
      have hb : cs.contains b = false := by simpa using hb
      rw [findIdx_none hb] at he
      exact he _ rfl
theorem askOne_len {cs : List Bytes} {g g' : Nat} {l l' : Toks} (h : askOne cs g l = .ok (g', l')) : l'.length + 1 = l.length ∧ ∃ i, i < cs.length ∧ ¬ g / 2 ^ i % 2 = 1 ∧ g' = g + 2 ^ i := by
  unfold askOne at h
  cases e : takeName l with
  | error f => rw [e] at h; cases h
  | ok x =>
    have hl := takeName_len e
    rw [e] at h
    have h : (match cs.findIdx? fun c => c == x.1.name with
      | none => (.error ⟨8, x.1.place⟩ : Except VamvsBase.Fault (Nat × Toks))
      | some i => if g / 2 ^ i % 2 = 1 then .error ⟨6, x.1.place⟩ else .ok (g + 2 ^ i, x.2)) = .ok (g', l') := h
    cases e2 : cs.findIdx? fun c => c == x.1.name with
    | none => rw [e2] at h; cases h
    | some i =>
      rw [e2] at h
      have h : (if g / 2 ^ i % 2 = 1 then (.error ⟨6, x.1.place⟩ : Except VamvsBase.Fault (Nat × Toks)) else .ok (g + 2 ^ i, x.2)) = .ok (g', l') := h
      split at h
      · cases h
      · injection h with h
        injection h with h1 h2
        rw [List.findIdx?_eq_some_iff_getElem] at e2
        obtain ⟨hi, _⟩ := e2
        exact ⟨by rw [← h2]; exact hl, i, hi, by assumption, h1.symm⟩
def tailA (cs : List Bytes) (n : Nat) (g : Nat) (l : Toks) : Except VamvsBase.Fault (Nat × Toks) := if next (.sign 44) l = true then takeAsked cs n g (l.drop 1) else .ok (g, l)
theorem takeAsked_succ (cs : List Bytes) (n g : Nat) (l : Toks) : takeAsked cs (n + 1) g l = (askOne cs g l).bind fun p => tailA cs n p.1 p.2 := by
  unfold takeAsked askOne
  cases takeName l with
  | error f => rfl
  | ok x =>
    show (match cs.findIdx? fun c => c == x.1.name with
      | none => (.error ⟨8, x.1.place⟩ : Except VamvsBase.Fault (Nat × Toks))
      | some i => if g / 2 ^ i % 2 = 1 then .error ⟨6, x.1.place⟩ else if next (.sign 44) x.2 = true then takeAsked cs n (g + 2 ^ i) (x.2.drop 1) else .ok (g + 2 ^ i, x.2)) = Except.bind (match cs.findIdx? fun c => c == x.1.name with
      | none => (.error ⟨8, x.1.place⟩ : Except VamvsBase.Fault (Nat × Toks))
      | some i => if g / 2 ^ i % 2 = 1 then .error ⟨6, x.1.place⟩ else .ok (g + 2 ^ i, x.2)) _
    cases cs.findIdx? fun c => c == x.1.name with
    | none => rfl
    | some i =>
      show (if g / 2 ^ i % 2 = 1 then _ else _) = Except.bind (if g / 2 ^ i % 2 = 1 then _ else _) _
      split <;> rfl
end
end Bw
set_option Elab.async false
set_option linter.all false
set_option maxRecDepth 100000
set_option maxHeartbeats 4000000
namespace Bw
open PySem PySem.Spec PyProof.Rows L2
section
variable {P : Program} {w : World} {K : PySem.W.Frag} {mg : Str → Option Value} {base : Heap}
open VamvsBase (PTok Toks Bytes PName token numberOf decimal word RESERVED lex here next nextWord tokEq takeName takeWord takeSign wrong)
open Vamvsa (takeColumns takeNat takeValues takeInt takeAsked takeTimes takeAsk)
/-- a new question at p -/
def AskN (K : PySem.W.Frag) (H H' : Hp) (p : Addr) (a : Vamvsa.Ask) : Prop := ∃ dx, H p = none ∧ H' p = some (.ins (He.ga K "Question") dx (quF (.int (a.g : Nat)) (.int (a.k : Nat))))
def restAsk (g : Nat) (l : Toks) : Except VamvsBase.Fault (Vamvsa.Ask × Toks) := (takeTimes l).bind fun k => (takeSign 59 k.2).map fun m => (⟨g, k.1⟩, m)
theorem takeAsk_eq (cs : List Bytes) (l : Toks) : takeAsk cs l = (if nextWord "times" l = true ∨ next (.sign 59) l = true then .ok (0, l) else takeAsked cs (l.length + 1) 0 l).bind fun g => restAsk g.1 g.2 := rfl
theorem not_name {l : Toks} (h : headForm l = some "name") : nextWord "times" l = false ∧ next (.sign 59) l = false := by
  obtain ⟨q, b, r, rfl, hres⟩ := head_name h
  refine ⟨?_, rfl⟩
  show (b == word "times") = false
  refine beq_eq_false_iff_ne.mpr fun e => ?_
  have hc : RESERVED.contains b = true := by
    rw [List.contains_iff_mem, reserved_eq, e]
    exact List.mem_map_of_mem (by decide)
  rw [hc] at hres
  cases hres
theorem takeTimes_no {l : Toks} (h : nextWord "times" l = false) : takeTimes l = .ok (1, l) := if_neg (by rw [h]; simp)
theorem takeTimes_num {q n : Nat} {l l' : Toks} (h : nextWord "times" l = true) (e : l.drop 1 = ⟨q, .num n⟩ :: l') : takeTimes l = if n < 1 ∨ 99 < n then .error ⟨7, q⟩ else .ok (n, l') := by
  unfold takeTimes
  rw [if_pos h, e]
  rfl
theorem takeTimes_wrong {l : Toks} (h : nextWord "times" l = true) (hn : ∀ q n l', l.drop 1 ≠ ⟨q, .num n⟩ :: l') : takeTimes l = .error ⟨3, here (l.drop 1)⟩ := by
  unfold takeTimes
  rw [if_pos h]
  generalize l.drop 1 = l1 at hn
  cases l1 with
  | nil => rfl
  | cons t r =>
    obtain ⟨q, tok⟩ := t
    cases tok with
    | num n => exact absurd rfl (hn q n r)
    | name b => rfl
    | sign c => rfl
    | last => rfl
def sp_read_question (K : PySem.W.Frag) : Sp := fun vs H Q E => ∃ (r ta : Addr) (G : Hp) (l : Toks) (cl rl ql : Addr) (cs : List Bytes) (as : List Addr) (xs : List V), vs = [.ref r, .ref ta] ∧ TbI K G ta cl rl ql ∧ RdAt K G H r l ∧ H cl = some (.lst (as.map V.ref)) ∧ Al2 (ColA G) as cs ∧ cs.length ≤ 4 ∧ H ql = some (.lst xs) ∧ xs.length ≤ 16 ∧ G ql = none ∧
  (∀ a m, takeAsk cs l = .ok (a, m) → ∀ (H' : Hp) (p : Addr), RdAt K G H' r m → But [r, ql] H H' → H' ql = some (.lst (xs ++ [.ref p])) → AskN K H H' p a → Q .non H') ∧ (∀ f, takeAsk cs l = .error f → Flt K [r] H E f.code f.place)
theorem sc_read_question : FnScope ["reader", "table", "grouping", "times"] ["reader", "table"] (defScope (top 78)) := ⟨rfl, rfl, rfl, by decide +kernel, rfl, by decide +kernel, by decide +kernel⟩
theorem ok_read_question (T : Txt K mg) : Def P w K mg base (L2.CX P w) 6 "read_question" ["reader", "table"] (sp_read_question K) := by
  obtain ⟨fd, F⟩ := fd_read_question T
  refine Def.mk' F sc_read_question (gl_read_question T) (fun vs H Q E h => by obtain ⟨_, _, _, _, _, _, _, _, _, _, rfl, _⟩ := h; rfl) (fun _ _ _ _ _ _ us hl => match us, hl with | [_, _], _ => rfl) fun cdv A outer s H vs Q E hr h => ?_
  refine ⟨_, pss_cons (ps_set (i := 2) sc_read_question.nd rfl (Or.inl rfl) pe_int)
    (pss_cons (ps_if (pt_val (Def.call (ok_is_form T) hr (by decide) (pa_cons (pv 0) (pa_cons (pe_gs (st_NAME T)) pa_nil))))
      (pss_cons (ps_set (i := 2) sc_read_question.nd rfl (Or.inl rfl) (Def.callX (ok_read_asked T) hr (by decide) (takes_of rfl rfl rfl rfl) (pa_cons (pv 0) (pa_cons (pv 1) (pa_cons (pv 2) pa_nil)))))
      (pss_one (ps_while (passes_of rfl) (pt_val (Def.call (ok_comes T) hr (by decide) (pa_cons (pv 0) (pa_cons (pe_gs (st_SIGN T)) (pa_cons pe_str pa_nil)))))
        (pss_one (ps_set (i := 2) sc_read_question.nd rfl (Or.inl rfl) (Def.callX (ok_read_asked T) hr (by decide) (takes_of rfl rfl rfl rfl) (pa_cons (pv 0) (pa_cons (pv 1) (pa_cons (pv 2) pa_nil)))))))))
      (pss_nil))
    (pss_cons (ps_set (i := 3) sc_read_question.nd rfl (Or.inl rfl) pe_int)
    (pss_cons (ps_if (pt_val (Def.call (ok_comes T) hr (by decide) (pa_cons (pv 0) (pa_cons (pe_gs (st_WORD T)) (pa_cons pe_str pa_nil)))))
      (pss_one (ps_set (i := 3) sc_read_question.nd rfl (Or.inl rfl) (Def.callX (ok_read_number T) hr (by decide) (takes_of rfl rfl rfl rfl) (pa_cons (pv 0) (pa_cons pe_int (pa_cons (pe_gi (in_MOST_TIMES T)) pa_nil))))))
      (pss_nil))
    (pss_cons (ps_expr (Def.callX (ok_want T) hr (by decide) (takes_of rfl rfl rfl rfl) (pa_cons (pv 0) (pa_cons (pe_gs (st_SIGN T)) (pa_cons pe_str pa_nil)))))
    (pss_one (ps_expr (pe_bm PySem.F.plainAttrs_list PySem.F.slot_list_append PySem.F.type_list_append mt_append (pe_fld (pv 1) rfl) (pa_cons (DefC.make (ok_Question_init T) hr (by decide) (pa_cons (pv 2) (pa_cons (pv 3) pa_nil))) pa_nil)))))))), ?_⟩
  obtain ⟨r, ta, G, l, cl, rl, ql, cs, as, xs, rfl, ⟨tdx, hta⟩, R, hcl, hcols, h4, hql, hxs, hnql, hq, he⟩ := h
  have hqr := R.ne hql
  have hcr := R.ne hcl
  have hta0 : ∀ {H' : Hp}, Same G H' → H' ta = some (.ins (He.ga K "Table") tdx (tbF (.ref cl) (.ref rl) (.ref ql))) := fun s => s _ _ hta
  -- behind the columns
  have rest : ∀ (g : Nat) (H1 : Hp) (l1 : Toks), RdAt K G H1 r l1 → But [r] H H1 → takeAsk cs l = restAsk g l1 →
      tSeq (tAsg (tC (.int 1)) (gName 3))
        (tSeq (tIfS (tB (tCall (sp_comes K) [] E0 (tCons (tVar 0) (tCons (tC (.str "word")) (tCons (tC (.str "times")) tNil)))))
          (tAsg (tCallS (sp_read_number K) (WE fun cls d _ H => E cls d H) (tCons (tVar 0) (tCons (tC (.int 1)) (tCons (tC (.int 99)) tNil)))) (gName 3)) tNext)
        (tSeq (tDrop (tCallS (sp_want K) (WE fun cls d _ H => E cls d H) (tCons (tVar 0) (tCons (tC (.str "sign")) (tCons (tC (.str ";")) tNil)))))
          (tDrop (tBM K "list" rAppend (tFld K (tVar 1) "questions") (tCons (tMake (He.ga K "Question") (sp_Question_init K) [] E0 (tCons (tVar 2) (tCons (tVar 3) tNil))) tNil)))))
        { nx := fun _ H' => Q .non H', rt := Q } [some (.ref r), some (.ref ta), some (.int (g : Nat)), none] H1 := fun g H1 l1 R1 b1 heq => by
    rw [heq] at hq he
    -- the end
    have fin : ∀ (k : Nat) (H2 : Hp) (l2 : Toks), RdAt K G H2 r l2 → But [r] H H2 → restAsk g l1 = ((takeSign 59 l2).map fun m => (⟨g, k⟩, m)) →
        tSeq (tDrop (tCallS (sp_want K) (WE fun cls d _ H => E cls d H) (tCons (tVar 0) (tCons (tC (.str "sign")) (tCons (tC (.str ";")) tNil)))))
          (tDrop (tBM K "list" rAppend (tFld K (tVar 1) "questions") (tCons (tMake (He.ga K "Question") (sp_Question_init K) [] E0 (tCons (tVar 2) (tCons (tVar 3) tNil))) tNil)))
          { nx := fun _ H' => Q .non H', rt := Q } [some (.ref r), some (.ref ta), some (.int (g : Nat)), some (.int (k : Nat))] H2 := fun k H2 l2 R2 b2 heq2 => by
      rw [heq2] at hq he
      refine ⟨_, rfl, r, _, _, _, G, l2, rfl, lit_semi, R2, fun hk => (he ⟨3, here l2⟩ (by rw [takeSign_no hk]; rfl)).up b2 (by simp), fun hk H5 R5 b5 => ?_⟩
      have bb5 := b2.trans b5
      have hql5 := bb5 _ _ hql (by simpa using hqr)
      refine ⟨_, rfl, _, _, _, _, _, rfl, hta0 R5.same, cl_Table T, na_Table_questions T, tb_questions, .inl ⟨rfl, _, SqL.of hql5⟩, _, rfl, _, rfl, ?_⟩
      dsimp only [tCons, tNil]
      refine qu_made (Q := fun v H2 => rAppend (.ref ql) [v] H2 fun _ H1 => Q .non H1) fun H6 p hs6 np hp => ?_
      obtain ⟨pdx, hp⟩ := hp
      have hpql : p ≠ ql := fun z => by rw [z, hql5] at np; cases np
      refine ⟨_, _, _, rfl, rfl, hs6 _ _ hql5, ?_, hq _ (l2.drop 1) (by rw [takeSign_ok hk]; rfl) _ p ((R5.up (fun _ _ e => e) (by obtain ⟨_, _, _, _, _, X⟩ := R5; exact X.nor) (fun b o e => hs6 b o (R5.same b o e)) (fun o e => hs6 _ _ e)).putL hnql hqr) ?_ ?_ ?_⟩
      · rw [sizeLine_eq]
        omega
      · exact ((bb5.mono (by simp)).trans (.of_same hs6)).trans (.put (by simp))
      · exact upd_same
      · have np0 : H p = none := by
          cases q : H p with
          | none => rfl
          | some o =>
            by_cases hpr : p = r
            · rw [hpr] at np
              obtain ⟨_, _, _, _, _, X⟩ := R5
              rw [X.ins] at np
              cases np
            · rw [bb5 _ _ q (by simpa using hpr)] at np
              cases np
        exact ⟨pdx, np0, by rw [upd_ne hpql]; exact hp⟩
    refine ⟨_, rfl, r, _, _, _, G, l1, rfl, litW (s := "times") (by decide), R1, fun hk => ⟨_, rfl, ifF rfl ?_⟩, fun hk H2 R2 b2 => ⟨_, rfl, ifT rfl ?_⟩⟩
    · refine fin 1 H1 l1 R1 b1 ?_
      unfold restAsk
      rw [takeTimes_no hk]
      rfl
    · have bb2 := b1.trans b2
      refine ⟨_, rfl, ?_⟩
      dsimp only [tCons, tC, tNil]
      refine ⟨r, 1, 99, G, _, rfl, R2, fun q n l' e hb H3 R3 b3 => ?_, fun q n l' e hb => ?_, fun hno => ?_⟩
      · refine fin n H3 l' R3 (bb2.trans b3) ?_
        unfold restAsk
        rw [takeTimes_num hk e, if_neg (by omega)]
        rfl
      · refine (he ⟨7, q⟩ ?_).up bb2 (by simp)
        unfold restAsk
        rw [takeTimes_num hk e, if_pos (by omega)]
        rfl
      · refine (he ⟨3, here (l1.drop 1)⟩ ?_).up bb2 (by simp)
        unfold restAsk
        rw [takeTimes_wrong hk hno]
        rfl
  refine ⟨_, rfl, r, _, G, l, rfl, R, _, rfl, ?_⟩
  by_cases c : headForm l = some "name"
  · obtain ⟨c1, c2⟩ := not_name c
    have hw : takeAsk cs l = (takeAsked cs (l.length + 1) 0 l).bind fun g => restAsk g.1 g.2 := by
      rw [takeAsk_eq, if_neg (by rw [c1, c2]; simp)]
    rw [takeAsked_succ] at hw
    refine ifT (decide_eq_true c) ⟨_, rfl, _, rfl, _, rfl, r, ta, 0, G, l, cl, rl, ql, cs, as, rfl, ⟨tdx, hta⟩, R, hcl, hcols, h4, fun g' l' e H1 R1 b1 => ?_, fun f hf => (he f (by rw [hw, hf]; rfl)).up (But.refl _ _) (by simp)⟩
    have hl' := askOne_len e
    rw [e] at hw
    have hw : takeAsk cs l = (tailA cs l.length g' l').bind fun g => restAsk g.1 g.2 := hw
    refine ⟨fun m σ H2 => ∃ g l2 n, m = l2.length ∧ l2.length ≤ n ∧ σ = [some (.ref r), some (.ref ta), some (.int (g : Nat)), none] ∧ RdAt K G H2 r l2 ∧ But [r] H H2 ∧ takeAsk cs l = (tailA cs n g l2).bind fun g => restAsk g.1 g.2,
      ⟨_, g', l', l.length, rfl, by omega, rfl, R1, b1, hw⟩, ?_⟩
    rintro m σ H2 ⟨g, l2, n, rfl, hn, rfl, R2, b2, heq⟩
    refine ⟨_, rfl, r, _, _, _, G, l2, rfl, lit_comma, R2, fun hk => ⟨_, rfl, ifF rfl ?_⟩, fun hk H3 R3 b3 => ⟨_, rfl, ifT rfl ⟨_, fun _ _ z => z, ?_⟩⟩⟩
    · refine rest g H2 l2 R2 b2 ?_
      rw [heq]
      unfold tailA
      rw [if_neg (by rw [hk]; simp)]
      rfl
    · have hp := next_pos hk
      obtain ⟨n, rfl⟩ : ∃ k, n = k + 1 := ⟨n - 1, by omega⟩
      have ht : tailA cs (n + 1) g l2 = takeAsked cs (n + 1) g (l2.drop 1) := if_pos hk
      rw [ht, takeAsked_succ] at heq
      have bb3 := b2.trans b3
      refine ⟨_, rfl, _, rfl, _, rfl, r, ta, g, G, _, cl, rl, ql, cs, as, rfl, ⟨tdx, hta⟩, R3, bb3 _ _ hcl (by simpa using hcr), hcols, h4, fun g5 l5 e5 H5 R5 b5 => ?_, fun f hf => (he f (by rw [heq, hf]; rfl)).up bb3 (by simp)⟩
      have hl5 := askOne_len e5
      rw [List.length_drop] at hl5
      rw [e5] at heq
      exact ⟨l5.length, by omega, g5, l5, n, rfl, by omega, rfl, R5, bb3.trans b5, heq⟩
  · refine ifF (decide_eq_false c) ?_
    by_cases c2 : nextWord "times" l = true ∨ next (.sign 59) l = true
    · refine rest 0 H l R (But.refl _ _) ?_
      rw [takeAsk_eq, if_pos c2]
      rfl
    · have c3 : nextWord "times" l = false ∧ next (.sign 59) l = false := by
        refine ⟨?_, ?_⟩
        · cases e : nextWord "times" l with
          | false => rfl
          | true => exact absurd (.inl e) c2
        · cases e : next (.sign 59) l with
          | false => rfl
          | true => exact absurd (.inr e) c2
      have hf : takeAsk cs l = .error ⟨3, here l⟩ := by
        rw [takeAsk_eq, if_neg c2, takeAsked_succ]
        unfold askOne
        rw [takeName_no c]
        rfl
      refine ⟨_, rfl, r, _, _, _, G, l, rfl, litW (s := "times") (by decide), R, fun hk => ⟨_, rfl, ifF rfl ?_⟩, fun hk _ _ _ => ?_⟩
      · exact ⟨_, rfl, r, _, _, _, G, l, rfl, lit_semi, R, fun hk => (he ⟨3, here l⟩ hf).up (But.refl _ _) (by simp), fun hk _ _ _ => by rw [c3.2] at hk; cases hk⟩
      · have hk : nextWord "times" l = true := hk
        rw [c3.1] at hk
        cases hk
end
end Bw
set_option Elab.async false
set_option linter.all false
set_option maxRecDepth 100000
set_option maxHeartbeats 4000000
namespace Bw
open PySem PySem.Spec PyProof.Rows L2
section
variable {P : Program} {w : World} {K : PySem.W.Frag} {mg : Str → Option Value} {base : Heap}
open VamvsBase (PTok Toks Bytes PName token numberOf decimal word RESERVED lex here next nextWord tokEq takeName takeWord takeSign wrong)
open Vamvsa (takeColumns takeNat takeValues takeInt takeAsked takeTimes takeAsk takeLines)
/-! ### a table as it stands -/
def RowA (K : PySem.W.Frag) (G : Hp) (a : Addr) (row : Vamvsa.Row) : Prop := ∃ dx ce, G a = some (.ins (He.ga K "Row") dx (rowF (.ref ce) (.int row.m))) ∧ G ce = some (.lst (natV row.vs))
def AskA (K : PySem.W.Frag) (G : Hp) (a : Addr) (q : Vamvsa.Ask) : Prop := ∃ dx, G a = some (.ins (He.ga K "Question") dx (quF (.int (q.g : Nat)) (.int (q.k : Nat))))
theorem RowA.same {K : PySem.W.Frag} {G H : Hp} (s : Same G H) (a : Addr) (c : Vamvsa.Row) (h : RowA K G a c) : RowA K H a c := let ⟨dx, ce, h1, h2⟩ := h; ⟨dx, ce, s _ _ h1, s _ _ h2⟩
theorem AskA.same {K : PySem.W.Frag} {G H : Hp} (s : Same G H) (a : Addr) (c : Vamvsa.Ask) (h : AskA K G a c) : AskA K H a c := let ⟨dx, h1⟩ := h; ⟨dx, s _ _ h1⟩
def LstA {α : Type} (R : Addr → α → Prop) (H : Hp) (p : Addr) (l : List α) : Prop := ∃ as : List Addr, H p = some (.lst (as.map V.ref)) ∧ Al2 R as l
def TbAt (K : PySem.W.Frag) (H : Hp) (ta : Addr) (t : Vamvsa.Table) : Prop := ∃ cl rl ql, TbI K H ta cl rl ql ∧ LstA (ColA H) H cl t.cols ∧ LstA (RowA K H) H rl t.rows ∧ LstA (AskA K H) H ql t.asks
theorem TbAt.same {K : PySem.W.Frag} {G H : Hp} (s : Same G H) {ta : Addr} {t : Vamvsa.Table} (h : TbAt K G ta t) : TbAt K H ta t := by
  obtain ⟨cl, rl, ql, h1, ⟨a1, h2, h3⟩, ⟨a2, h4, h5⟩, ⟨a3, h6, h7⟩⟩ := h
  exact ⟨cl, rl, ql, h1.same s, ⟨a1, s _ _ h2, h3.imp (ColA.same s)⟩, ⟨a2, s _ _ h4, h5.imp (RowA.same s)⟩, ⟨a3, s _ _ h6, h7.imp (AskA.same s)⟩⟩
/-! ### while a table is read -/
abbrev gP (H0 H : Hp) (r cl rl ql : Addr) : Hp := cut [r, cl, rl, ql] (newer H0 H)
structure Pst (K : PySem.W.Frag) (H0 H : Hp) (r ta cl rl ql : Addr) (l : Toks) (t : Vamvsa.Table) : Prop where
  tb : TbI K (gP H0 H r cl rl ql) ta cl rl ql
  rd : RdAt K (gP H0 H r cl rl ql) H r l
  cols : LstA (ColA (gP H0 H r cl rl ql)) H cl t.cols
  rows : LstA (RowA K (gP H0 H r cl rl ql)) H rl t.rows
  asks : LstA (AskA K (gP H0 H r cl rl ql)) H ql t.asks
  wc : t.cols.length ≤ 4
  wr : t.rows.length ≤ 16
  wa : t.asks.length ≤ 8
  n1 : H0 r = none
  n2 : H0 cl = none
  n3 : H0 rl = none
  n4 : H0 ql = none
  same : Same H0 H
  e1 : cl ≠ rl
  e2 : cl ≠ ql
  e3 : rl ≠ ql
theorem gP_up {H0 H H' : Hp} {r cl rl ql : Addr} {N : List Addr} (b : But N H H') (s : ∀ x ∈ N, x ∈ [r, cl, rl, ql]) : Same (gP H0 H r cl rl ql) (gP H0 H' r cl rl ql) := fun c o h => by
  obtain ⟨h1, h2⟩ := cut_some h
  obtain ⟨h3, h4⟩ := newer_some h2
  rw [gP, cut_out h1]
  exact newer_of h3 (b c o h4 fun z => h1 (s c z))
theorem gP_in {H0 H : Hp} {r cl rl ql : Addr} : Same (gP H0 H r cl rl ql) H := fun c o h => newer_in _ _ _ _ (cut_same _ _ _ _ h)
theorem same_but {H0 H H' : Hp} {N : List Addr} (s : Same H0 H) (b : But N H H') (n : ∀ x ∈ N, H0 x = none) : Same H0 H' := fun c o h => b c o (s c o h) fun z => by rw [n c z] at h; cases h
/-- a new thing is none of the four -/
theorem Pst.fresh {K : PySem.W.Frag} {H0 H : Hp} {r ta cl rl ql : Addr} {l : Toks} {t : Vamvsa.Table} (S : Pst K H0 H r ta cl rl ql l t) {H1 : Hp} (R : RdAt K (gP H0 H r cl rl ql) H1 r l) {p : Addr} (hp : H p = none) : p ∉ [r, cl, rl, ql] := by
  obtain ⟨_, _, _, _, _, X⟩ := S.rd
  obtain ⟨a1, h1, _⟩ := S.cols
  obtain ⟨a2, h2, _⟩ := S.rows
  obtain ⟨a3, h3, _⟩ := S.asks
  intro z
  simp only [List.mem_cons, List.not_mem_nil, or_false] at z
  rcases z with rfl | rfl | rfl | rfl
  · rw [X.ins] at hp; cases hp
  · rw [h1] at hp; cases hp
  · rw [h2] at hp; cases hp
  · rw [h3] at hp; cases hp
def lineOf (t : Vamvsa.Table) (l : Toks) : Except VamvsBase.Fault (Vamvsa.Table × Toks) :=
  if nextWord "row" l = true then (if 16 ≤ t.rows.length then .error ⟨4, here l⟩ else (rowOf t.cols.length (l.drop 1)).map fun x => ({ t with rows := t.rows ++ [x.1] }, x.2))
  else (takeWord "ask" l).bind fun r => if 8 ≤ t.asks.length then .error ⟨4, here l⟩ else (takeAsk t.cols r).map fun x => ({ t with asks := t.asks ++ [x.1] }, x.2)
theorem bind_map {A B C : Type} (x : Except VamvsBase.Fault A) (f : A → B) (g : B → Except VamvsBase.Fault C) : (x.map f).bind g = x.bind fun a => g (f a) := by cases x <;> rfl
theorem bind_bind {A B C : Type} (x : Except VamvsBase.Fault A) (f : A → Except VamvsBase.Fault B) (g : B → Except VamvsBase.Fault C) : (x.bind f).bind g = x.bind fun a => (f a).bind g := by cases x <;> rfl
theorem takeLines_succ (n : Nat) (t : Vamvsa.Table) (l : Toks) : takeLines (n + 1) t l = if next .last l = true then .ok t else (lineOf t l).bind fun p => takeLines n p.1 p.2 := by
  show (if next .last l = true then (Except.ok t : Except VamvsBase.Fault Vamvsa.Table) else if nextWord "row" l = true then _ else _) = _
  unfold lineOf
  split
  · rfl
  · split
    · show (if 16 ≤ t.rows.length then _ else _) = Except.bind (if 16 ≤ t.rows.length then _ else _) _
      split
      · rfl
      · rw [bind_map]
        unfold rowOf
        simp only [bind_bind, bind_map]
    · rw [bind_bind]
      congr 1
      funext r
      show (if 8 ≤ t.asks.length then _ else _) = Except.bind (if 8 ≤ t.asks.length then _ else _) _
      split
      · rfl
      · rw [bind_map]
def sp_read_line (K : PySem.W.Frag) : Sp := fun vs H Q E => ∃ (r ta : Addr) (H0 : Hp) (l : Toks) (cl rl ql : Addr) (t : Vamvsa.Table), vs = [.ref r, .ref ta] ∧ Pst K H0 H r ta cl rl ql l t ∧
  (∀ t' l', lineOf t l = .ok (t', l') → ∀ H', Pst K H0 H' r ta cl rl ql l' t' → But [r, rl, ql] H H' → Q .non H') ∧ (∀ f, lineOf t l = .error f → Flt K [r, rl, ql] H E f.code f.place)
theorem sc_read_line : FnScope ["reader", "table"] ["reader", "table"] (defScope (top 79)) := ⟨rfl, rfl, rfl, by decide +kernel, rfl, by decide +kernel, by decide +kernel⟩
theorem ok_read_line (T : Txt K mg) : Def P w K mg base (L2.CX P w) 7 "read_line" ["reader", "table"] (sp_read_line K) := by
  obtain ⟨fd, F⟩ := fd_read_line T
  refine Def.mk' F sc_read_line (gl_read_line T) (fun vs H Q E h => by obtain ⟨_, _, _, _, _, _, _, _, rfl, _⟩ := h; rfl) (fun _ _ _ _ _ _ us hl => match us, hl with | [_, _], _ => rfl) fun cdv A outer s H vs Q E hr h => ?_
  refine ⟨_, pss_one (ps_if (pt_val (Def.call (ok_is_at T) hr (by decide) (pa_cons (pv 0) (pa_cons (pe_gs (st_WORD T)) (pa_cons pe_str pa_nil)))))
      (pss_cons (ps_expr (Def.callX (ok_fault_if T) hr (by decide) (takes_of rfl rfl rfl rfl) (pa_cons (pv 0) (pa_cons (pe_cmpR op_eq (pe_callB call_len_seq (by rfl) (fr_len T) PySem.boot_len (pa_cons (pe_fld (pv 1) rfl) pa_nil)) (pe_gi (in_MOST_ROWS T)) (nomark _)) (pa_cons (pe_gi (in_TOO_MANY T)) pa_nil)))))
      (pss_cons (ps_expr (Def.call (ok_take T) hr (by decide) (pa_cons (pv 0) pa_nil)))
      (pss_one (ps_expr (Def.callX (ok_read_row T) hr (by decide) (takes_of rfl rfl rfl rfl) (pa_cons (pv 0) (pa_cons (pv 1) pa_nil)))))))
      (pss_cons (ps_expr (Def.callX (ok_fault_if T) hr (by decide) (takes_of rfl rfl rfl rfl) (pa_cons (pv 0) (pa_cons (pe_not (Def.call (ok_is_at T) hr (by decide) (pa_cons (pv 0) (pa_cons (pe_gs (st_WORD T)) (pa_cons pe_str pa_nil))))) (pa_cons (pe_gi (in_NOT_ALLOWED T)) pa_nil)))))
      (pss_cons (ps_expr (Def.callX (ok_fault_if T) hr (by decide) (takes_of rfl rfl rfl rfl) (pa_cons (pv 0) (pa_cons (pe_cmpR op_eq (pe_callB call_len_seq (by rfl) (fr_len T) PySem.boot_len (pa_cons (pe_fld (pv 1) rfl) pa_nil)) (pe_gi (in_MOST_QUESTIONS T)) (nomark _)) (pa_cons (pe_gi (in_TOO_MANY T)) pa_nil)))))
      (pss_cons (ps_expr (Def.call (ok_take T) hr (by decide) (pa_cons (pv 0) pa_nil)))
      (pss_one (ps_expr (Def.callX (ok_read_question T) hr (by decide) (takes_of rfl rfl rfl rfl) (pa_cons (pv 0) (pa_cons (pv 1) pa_nil))))))))), ?_⟩
  obtain ⟨r, ta, H0, l, cl, rl, ql, t, rfl, S, hq, he⟩ := h
  obtain ⟨tdx, hta⟩ := S.tb
  obtain ⟨ca, hcl, hca⟩ := S.cols
  obtain ⟨ra, hrl, hra⟩ := S.rows
  obtain ⟨qa, hql, hqa⟩ := S.asks
  have R := S.rd
  have hGrl : gP H0 H r cl rl ql rl = none := cut_in (by simp)
  have hGql : gP H0 H r cl rl ql ql = none := cut_in (by simp)
  have hGcl : gP H0 H r cl rl ql cl = none := cut_in (by simp)
  have hcr := R.ne hcl
  have hrr := R.ne hrl
  have hqr := R.ne hql
  refine ⟨_, rfl, r, _, _, _, _, l, rfl, litW (s := "row") (by decide), R, _, rfl, ?_⟩
  cases ek : nextWord "row" l with
  | true =>
    have hlo : lineOf t l = if 16 ≤ t.rows.length then .error ⟨4, here l⟩ else (rowOf t.cols.length (l.drop 1)).map fun x => ({ t with rows := t.rows ++ [x.1] }, x.2) := if_pos ek
    rw [hlo] at hq he
    refine ifT ek ⟨_, rfl, _, rfl, _, _, _, _, _, rfl, R.same _ _ hta, cl_Table T, na_Table_rows T, tb_rows, _, _, rfl, .inl (SqL.of hrl), rfl, r, _, 4, _, l, rfl, R, fun hb => ?_, fun hb => ?_⟩
    · have hb : ¬ 16 ≤ t.rows.length := fun z => by
        rw [decide_eq_false_iff_not] at hb
        have := hra.len
        have := S.wr
        exact hb (by rw [List.length_map, show ra.length = 16 by omega]; rfl)
      rw [if_neg hb] at hq he
      obtain ⟨u, l', rfl, hu⟩ := next_cons (litW (s := "row") (by decide)) ek
      refine ⟨_, rfl, r, _, u, l', rfl, R, hu, fun f v H1 _ R1 b1 => ?_⟩
      refine ⟨_, rfl, _, rfl, r, ta, gP H0 H r cl rl ql, l', cl, rl, ql, t.cols.length, ca.map V.ref, ra.map V.ref, rfl, ⟨tdx, hta⟩, R1, b1 _ _ hcl (by simpa using hcr), by rw [List.length_map]; exact hca.len, S.wc, b1 _ _ hrl (by simpa using hrr), ?_, hGrl, fun row m e H2 p R2 b2 hrl2 hN => ?_, fun f hf => (he f (by show (rowOf t.cols.length l').map _ = _; rw [hf]; rfl)).up (b1.mono (by simp)) (by simp)⟩
      · rw [List.length_map, hra.len]
        exact S.wr
      · have b : But [r, rl] H H2 := (b1.mono (by simp)).trans b2
        have sG : Same (gP H0 H r cl rl ql) (gP H0 H2 r cl rl ql) := gP_up b (by simp)
        obtain ⟨pdx, ce, hp0, hc0, hp2, hc2⟩ := hN
        have keep : ∀ {x : Addr}, H1 x = none → H x = none := fun {x} hx => by
          cases q : H x with
          | none => rfl
          | some o =>
            by_cases hxr : x = r
            · rw [hxr] at hx
              obtain ⟨_, _, _, _, _, X⟩ := R1
              rw [X.ins] at hx
              cases hx
            · rw [b1 _ _ q (by simpa using hxr)] at hx
              cases hx
        have hpn := S.fresh R (keep hp0)
        have hcn := S.fresh R (keep hc0)
        have new : RowA K (gP H0 H2 r cl rl ql) p row := ⟨pdx, ce, by rw [gP, cut_out hpn]; exact newer_of (S.same.free (keep hp0)) hp2, by rw [gP, cut_out hcn]; exact newer_of (S.same.free (keep hc0)) hc2⟩
        refine hq _ m (by show (rowOf t.cols.length l').map _ = _; rw [e]; rfl) H2 ?_ (b.mono (by simp))
        exact ⟨⟨tdx, sG _ _ hta⟩, R2.up sG (cut_in (by simp)) gP_in (fun o e => e), ⟨ca, b _ _ hcl (by simpa using ⟨hcr, S.e1⟩), hca.imp (ColA.same sG)⟩,
          ⟨ra ++ [p], by rw [hrl2, List.map_append]; rfl, Al2.snoc new (hra.imp (RowA.same sG))⟩, ⟨qa, b _ _ hql (by simpa using ⟨hqr, Ne.symm S.e3⟩), hqa.imp (AskA.same sG)⟩, S.wc, by
            show (t.rows ++ [row]).length ≤ 16
            rw [List.length_append, List.length_singleton]
            omega, S.wa, S.n1, S.n2, S.n3, S.n4, same_but S.same b (by intro x hx; simp only [List.mem_cons, List.not_mem_nil, or_false] at hx; rcases hx with rfl | rfl; exact S.n1; exact S.n3), S.e1, S.e2, S.e3⟩
    · have hb : 16 ≤ t.rows.length := by
        have z := of_decide_eq_true hb
        rw [List.length_map, hra.len] at z
        have z2 : ((t.rows.length : Nat) : Int) = 16 := V.int.inj z
        omega
      rw [if_pos hb] at he
      exact (he _ rfl).up (But.refl _ _) (by simp)
  | false =>
    have hlo : lineOf t l = (takeWord "ask" l).bind fun r => if 8 ≤ t.asks.length then .error ⟨4, here l⟩ else (takeAsk t.cols r).map fun x => ({ t with asks := t.asks ++ [x.1] }, x.2) := if_neg (by rw [ek]; simp)
    rw [hlo] at hq he
    refine ifF ek ⟨_, rfl, _, rfl, r, _, _, _, _, l, rfl, litW (s := "ask") (by decide), R, _, rfl, r, _, 3, _, l, rfl, R, fun hb => ?_, fun hb => ?_⟩
    · have hk : next (.name (word "ask")) l = true := by simpa using hb
      rw [takeWord_ok hk] at hq he
      have hq : ∀ t' l', (if 8 ≤ t.asks.length then (.error ⟨4, here l⟩ : Except VamvsBase.Fault (Vamvsa.Table × Toks)) else (takeAsk t.cols (l.drop 1)).map fun x => ({ t with asks := t.asks ++ [x.1] }, x.2)) = .ok (t', l') → _ := hq
      have he : ∀ f, (if 8 ≤ t.asks.length then (.error ⟨4, here l⟩ : Except VamvsBase.Fault (Vamvsa.Table × Toks)) else (takeAsk t.cols (l.drop 1)).map fun x => ({ t with asks := t.asks ++ [x.1] }, x.2)) = .error f → _ := he
      refine ⟨_, rfl, _, rfl, _, _, _, _, _, rfl, R.same _ _ hta, cl_Table T, na_Table_questions T, tb_questions, _, _, rfl, .inl (SqL.of hql), rfl, r, _, 4, _, l, rfl, R, fun hb => ?_, fun hb => ?_⟩
      · have hb : ¬ 8 ≤ t.asks.length := fun z => by
          rw [decide_eq_false_iff_not] at hb
          have := hqa.len
          have := S.wa
          exact hb (by rw [List.length_map, show qa.length = 8 by omega]; rfl)
        rw [if_neg hb] at hq he
        obtain ⟨u, l', rfl, hu⟩ := next_cons (litW (s := "ask") (by decide)) hk
        refine ⟨_, rfl, r, _, u, l', rfl, R, hu, fun f v H1 _ R1 b1 => ?_⟩
        refine ⟨_, rfl, _, rfl, r, ta, gP H0 H r cl rl ql, l', cl, rl, ql, t.cols, ca, qa.map V.ref, rfl, ⟨tdx, hta⟩, R1, b1 _ _ hcl (by simpa using hcr), hca, S.wc, b1 _ _ hql (by simpa using hqr), ?_, hGql, fun a m e H2 p R2 b2 hql2 hN => ?_, fun f hf => (he f (by show (takeAsk t.cols l').map _ = _; rw [hf]; rfl)).up (b1.mono (by simp)) (by simp)⟩
        · rw [List.length_map, hqa.len]
          have := S.wa
          omega
        · have b : But [r, ql] H H2 := (b1.mono (by simp)).trans b2
          have sG : Same (gP H0 H r cl rl ql) (gP H0 H2 r cl rl ql) := gP_up b (by simp)
          obtain ⟨pdx, hp0, hp2⟩ := hN
          have keep : ∀ {x : Addr}, H1 x = none → H x = none := fun {x} hx => by
            cases q : H x with
            | none => rfl
            | some o =>
              by_cases hxr : x = r
              · rw [hxr] at hx
                obtain ⟨_, _, _, _, _, X⟩ := R1
                rw [X.ins] at hx
                cases hx
              · rw [b1 _ _ q (by simpa using hxr)] at hx
                cases hx
          have hpn := S.fresh R (keep hp0)
          have new : AskA K (gP H0 H2 r cl rl ql) p a := ⟨pdx, by rw [gP, cut_out hpn]; exact newer_of (S.same.free (keep hp0)) hp2⟩
          refine hq _ m (by show (takeAsk t.cols l').map _ = _; rw [e]; rfl) H2 ?_ (b.mono (by simp))
          exact ⟨⟨tdx, sG _ _ hta⟩, R2.up sG (cut_in (by simp)) gP_in (fun o e => e), ⟨ca, b _ _ hcl (by simpa using ⟨hcr, S.e2⟩), hca.imp (ColA.same sG)⟩,
            ⟨ra, b _ _ hrl (by simpa using ⟨hrr, S.e3⟩), hra.imp (RowA.same sG)⟩, ⟨qa ++ [p], by rw [hql2, List.map_append]; rfl, Al2.snoc new (hqa.imp (AskA.same sG))⟩, S.wc, S.wr, by
              show (t.asks ++ [a]).length ≤ 8
              rw [List.length_append, List.length_singleton]
              omega, S.n1, S.n2, S.n3, S.n4, same_but S.same b (by intro x hx; simp only [List.mem_cons, List.not_mem_nil, or_false] at hx; rcases hx with rfl | rfl; exact S.n1; exact S.n4), S.e1, S.e2, S.e3⟩
      · have hb : 8 ≤ t.asks.length := by
          have z := of_decide_eq_true hb
          rw [List.length_map, hqa.len] at z
          have z2 : ((t.asks.length : Nat) : Int) = 8 := V.int.inj z
          omega
        rw [if_pos hb] at he
        exact (he _ rfl).up (But.refl _ _) (by simp)
    · have hk : next (.name (word "ask")) l = false := by simpa using hb
      rw [takeWord_no hk] at he
      exact (he _ rfl).up (But.refl _ _) (by simp)
end
end Bw
set_option Elab.async false
set_option linter.all false
set_option maxRecDepth 100000
set_option maxHeartbeats 4000000
namespace Bw
open PySem PySem.Spec PyProof.Rows L2
section
variable {P : Program} {w : World} {K : PySem.W.Frag} {mg : Str → Option Value} {base : Heap}
open VamvsBase (PTok Toks Bytes PName token tokens numberOf decimal word RESERVED lex here next nextWord tokEq takeName takeWord takeSign wrong)
open Vamvsa (takeColumns takeNat takeValues takeInt takeAsked takeTimes takeAsk takeLines read)
theorem takeSign_len {c : Nat} {l l' : Toks} (h : takeSign c l = .ok l') : l'.length ≤ l.length := by
  cases e : next (.sign c) l with
  | false => rw [takeSign_no e] at h; cases h
  | true =>
    rw [takeSign_ok e] at h
    injection h with h
    rw [← h, List.length_drop]
    omega
theorem takeInt_len {l : Toks} {x : Int × Toks} (h : takeInt l = .ok x) : x.2.length ≤ l.length ∧ -1000 ≤ x.1 ∧ x.1 ≤ 1000 := by
  rw [takeInt_eq] at h
  cases e : takeNat 1000 (if next (.sign 45) l = true then l.drop 1 else l) with
  | error f => rw [e] at h; cases h
  | ok y =>
    obtain ⟨h1, h2⟩ := takeNat_len e
    rw [e] at h
    injection h with h
    have h3 : (if next (.sign 45) l = true then l.drop 1 else l).length ≤ l.length := by
      split
      · rw [List.length_drop]; omega
      · omega
    rw [← h]
    refine ⟨?_, ?_, ?_⟩
    · show y.2.length ≤ l.length
      omega
    · show -1000 ≤ (if next (.sign 45) l = true then -(y.1 : Int) else (y.1 : Int))
      split <;> omega
    · show (if next (.sign 45) l = true then -(y.1 : Int) else (y.1 : Int)) ≤ 1000
      split <;> omega
theorem rowOf_len {w : Nat} {l m : Toks} {row : Vamvsa.Row} (h : rowOf w l = .ok (row, m)) : m.length ≤ l.length ∧ row.vs.length = w ∧ (∀ v ∈ row.vs, v ≤ 9) ∧ -1000 ≤ row.m ∧ row.m ≤ 1000 := by
  unfold rowOf at h
  cases e1 : takeValues w [] l with
  | error f => rw [e1] at h; cases h
  | ok v =>
    rw [e1] at h
    have h : ((takeSign 58 v.2).bind fun r => (takeInt r).bind fun x => (takeSign 59 x.2).map fun m => ((⟨v.1, x.1⟩ : Vamvsa.Row), m)) = .ok (row, m) := h
    obtain ⟨a1, a2, a3⟩ := takeValues_len _ _ _ _ e1
    cases e2 : takeSign 58 v.2 with
    | error f => rw [e2] at h; cases h
    | ok r =>
      rw [e2] at h
      have h : ((takeInt r).bind fun x => (takeSign 59 x.2).map fun m => ((⟨v.1, x.1⟩ : Vamvsa.Row), m)) = .ok (row, m) := h
      cases e3 : takeInt r with
      | error f => rw [e3] at h; cases h
      | ok x =>
        rw [e3] at h
        have h : ((takeSign 59 x.2).map fun m => ((⟨v.1, x.1⟩ : Vamvsa.Row), m)) = .ok (row, m) := h
        cases e4 : takeSign 59 x.2 with
        | error f => rw [e4] at h; cases h
        | ok m' =>
          rw [e4] at h
          injection h with h
          injection h with h1 h2
          have b2 := takeSign_len e2
          obtain ⟨b3, b5, b6⟩ := takeInt_len e3
          have b4 := takeSign_len e4
          rw [← h1, ← h2]
          refine ⟨by omega, ?_, a2 (by simp), b5, b6⟩
          show v.1.length = w
          simp at a1
          exact a1
theorem takeAsked_len (cs : List Bytes) : ∀ (n g : Nat) (l : Toks) (x : Nat × Toks), takeAsked cs n g l = .ok x → x.2.length ≤ l.length
  | 0, g, l, x, h => by cases h
  | n + 1, g, l, x, h => by
    rw [takeAsked_succ] at h
    cases e : askOne cs g l with
    | error f => rw [e] at h; cases h
    | ok p =>
      obtain ⟨h1, _⟩ := askOne_len (g' := p.1) (l' := p.2) e
      rw [e] at h
      have h : tailA cs n p.1 p.2 = .ok x := h
      unfold tailA at h
      split at h
      · have := takeAsked_len cs n _ _ x h
        rw [List.length_drop] at this
        omega
      · injection h with h
        rw [← h]
        show p.2.length ≤ _
        omega
theorem takeTimes_len {l : Toks} {x : Nat × Toks} (h : takeTimes l = .ok x) : x.2.length ≤ l.length ∧ 1 ≤ x.1 ∧ x.1 ≤ 99 := by
  cases e : nextWord "times" l with
  | false =>
    rw [takeTimes_no e] at h
    injection h with h
    rw [← h]
    exact ⟨Nat.le_refl _, Nat.le_refl 1, by show 1 ≤ 99; decide⟩
  | true =>
    by_cases c : ∃ q n l', l.drop 1 = ⟨q, .num n⟩ :: l'
    · obtain ⟨q, n, l', c⟩ := c
      rw [takeTimes_num e c] at h
      split at h
      · cases h
      · injection h with h
        rw [← h]
        have hl := congrArg List.length c
        rw [List.length_drop, List.length_cons] at hl
        refine ⟨?_, by show 1 ≤ n; omega, by show n ≤ 99; omega⟩
        show l'.length ≤ l.length
        omega
    · rw [takeTimes_wrong e fun q n l' z => c ⟨q, n, l', z⟩] at h
      cases h
theorem takeAsk_len {cs : List Bytes} {l m : Toks} {a : Vamvsa.Ask} (h : takeAsk cs l = .ok (a, m)) : m.length ≤ l.length := by
  rw [takeAsk_eq] at h
  cases e1 : (if nextWord "times" l = true ∨ next (.sign 59) l = true then (.ok (0, l) : Except VamvsBase.Fault (Nat × Toks)) else takeAsked cs (l.length + 1) 0 l) with
  | error f => rw [e1] at h; cases h
  | ok g =>
    have h1 : g.2.length ≤ l.length := by
      split at e1
      · injection e1 with e1
        rw [← e1]
        exact Nat.le_refl _
      · exact takeAsked_len _ _ _ _ _ e1
    rw [e1] at h
    have h : restAsk g.1 g.2 = .ok (a, m) := h
    unfold restAsk at h
    cases e2 : takeTimes g.2 with
    | error f => rw [e2] at h; cases h
    | ok k =>
      rw [e2] at h
      have h : ((takeSign 59 k.2).map fun m => ((⟨g.1, k.1⟩ : Vamvsa.Ask), m)) = .ok (a, m) := h
      cases e3 : takeSign 59 k.2 with
      | error f => rw [e3] at h; cases h
      | ok m' =>
        rw [e3] at h
        injection h with h
        injection h with _ h2
        rw [← h2]
        have := (takeTimes_len e2).1
        have := takeSign_len e3
        omega
theorem lineOf_len {t t' : Vamvsa.Table} {l l' : Toks} (h : lineOf t l = .ok (t', l')) : l'.length < l.length := by
  unfold lineOf at h
  split at h
  · rename_i hk
    have := next_pos hk
    split at h
    · cases h
    · cases e : rowOf t.cols.length (l.drop 1) with
      | error f => rw [e] at h; cases h
      | ok x =>
        rw [e] at h
        injection h with h
        injection h with _ h2
        have := (rowOf_len (row := x.1) (m := x.2) e).1
        rw [List.length_drop] at this
        rw [← h2]
        omega
  · cases ek : next (.name (word "ask")) l with
    | false => rw [takeWord_no ek] at h; cases h
    | true =>
      have := next_pos ek
      rw [takeWord_ok ek] at h
      have h : (if 8 ≤ t.asks.length then (.error ⟨4, here l⟩ : Except VamvsBase.Fault (Vamvsa.Table × Toks)) else (takeAsk t.cols (l.drop 1)).map fun x => ({ t with asks := t.asks ++ [x.1] }, x.2)) = .ok (t', l') := h
      split at h
      · cases h
      · cases e : takeAsk t.cols (l.drop 1) with
        | error f => rw [e] at h; cases h
        | ok x =>
          rw [e] at h
          injection h with h
          injection h with _ h2
          have := takeAsk_len (a := x.1) (m := x.2) e
          rw [List.length_drop] at this
          rw [← h2]
          omega
theorem read_eq (b : Bytes) : read b = if 4096 < b.length then .error ⟨1, 4096⟩ else (lex (b.length + 1) 0 b).bind fun l => (colsOf l).bind fun x => takeLines (x.2.length + 1) ⟨x.1, [], []⟩ x.2 := by
  unfold Vamvsa.read tokens colsOf
  show Except.bind (if 4096 < b.length then _ else _) _ = _
  split
  · rfl
  · simp only [bind_bind]
theorem Flt.anew {K : PySem.W.Frag} {N : List Addr} {H H3 : Hp} {E : XK} {c wh : Int} (h : Flt K [] H E c wh) (s : Same H H3) (n : ∀ x ∈ N, H x = none) : Flt K N H3 E c wh := fun H2 d b2 e => h H2 d (.of_same (same_but s b2 n)) e
def sp_read_table (K : PySem.W.Frag) : Sp := fun vs H Q E => ∃ (a : Addr) (b : Bytes), vs = [.ref a] ∧ SqL K H a ((byV b).map V.int) ∧ b.length ≤ 10000 ∧
  (∀ t, read b = .ok t → ∀ (H' : Hp) (ta : Addr), Same H H' → TbAt K (newer H H') ta t → Q (.ref ta) H') ∧ (∀ f, read b = .error f → Flt K [] H E f.code f.place)
theorem sc_read_table : FnScope ["text", "reader", "table"] ["text"] (defScope (top 80)) := ⟨rfl, rfl, rfl, by decide +kernel, rfl, by decide +kernel, by decide +kernel⟩
theorem ok_read_table (T : Txt K mg) : Def P w K mg base (L2.CX P w) 8 "read_table" ["text"] (sp_read_table K) := by
  obtain ⟨fd, F⟩ := fd_read_table T
  refine Def.mk' F sc_read_table (gl_read_table T) (fun vs H Q E h => by obtain ⟨_, _, rfl, _⟩ := h; rfl) (fun _ _ _ _ _ _ us hl => match us, hl with | [_], _ => rfl) fun cdv A outer s H vs Q E hr h => ?_
  refine ⟨_, pss_cons (ps_if (pt_cmpR op_gt (pe_callB call_len_seq (by rfl) (fr_len T) PySem.boot_len (pa_cons (pv 0) pa_nil)) (pe_gi (in_MOST_TEXT T)) (nomark _))
      (pss_one (ps_raise rfl (takes_of rfl rfl rfl rfl) (DefE.pmk (ok_Fault_init T) hr (by decide) (pa_cons (pe_gi (in_TOO_LONG T)) (pa_cons (pe_gi (in_MOST_TEXT T)) pa_nil)))))
      (pss_nil))
    (pss_cons (ps_set (i := 1) sc_read_table.nd rfl (Or.inl rfl) (DefC.makeX (ok_Reader_init T) hr (by decide) (takes_of rfl rfl rfl rfl) (pa_cons (pv 0) pa_nil)))
    (pss_cons (ps_set (i := 2) sc_read_table.nd rfl (Or.inl rfl) (DefC.make0 (ok_Table_init T) hr (by decide)))
    (pss_cons (ps_expr (Def.callX (ok_read_columns T) hr (by decide) (takes_of rfl rfl rfl rfl) (pa_cons (pv 1) (pa_cons (pv 2) pa_nil))))
    (pss_cons (ps_while (passes_of rfl) (pt_cmpR op_lt (pe_fld (pv 1) rfl) (pe_callB call_len_seq (by rfl) (fr_len T) PySem.boot_len (pa_cons (pe_fld (pv 1) rfl) pa_nil)) (nomark _))
      (pss_one (ps_expr (Def.callX (ok_read_line T) hr (by decide) (takes_of rfl rfl rfl rfl) (pa_cons (pv 1) (pa_cons (pv 2) pa_nil))))))
    (pss_one (ps_ret (pv 2))))))), ?_⟩
  obtain ⟨a, b, rfl, ha, hsz, hq, he⟩ := h
  rw [read_eq] at hq he
  refine ⟨_, rfl, _, _, rfl, .inl ha, _, _, rfl, rfl, _, rfl, ?_⟩
  rw [List.length_map, byV_len]
  by_cases c : (4096 : Int) < b.length
  · rw [if_pos (by omega)] at he
    exact ifT (decide_eq_true c) (fault_made fun d hd => he _ rfl _ d (.of_same (same_new hd)) upd_same)
  · rw [if_neg (by omega)] at hq he
    refine ifF (decide_eq_false c) ⟨_, rfl, fun r dx nr nd ne => ?_⟩
    have sx : Same H (upd (upd H dx (.own r)) r (.ins (He.ga K "Reader") dx [])) := fun b o e => by
      rw [upd_ne (ne_of_none e nr), upd_ne (ne_of_none e nd)]
      exact e
    have hxr : (upd (upd H dx (.own r)) r (.ins (He.ga K "Reader") dx [])) r = some (.ins (He.ga K "Reader") dx []) := upd_same
    refine ⟨r, dx, a, b, rfl, hxr, sx.seq ha, hsz, fun l hl H2 R2 b2 => ⟨rfl, ?_⟩, fun f hf => (he f (by rw [hf]; rfl)).up (.of_same sx) (by simp)⟩
    rw [hl] at hq he
    have hq : ∀ t, ((colsOf l).bind fun x => takeLines (x.2.length + 1) ⟨x.1, [], []⟩ x.2) = .ok t → _ := hq
    have he : ∀ f, ((colsOf l).bind fun x => takeLines (x.2.length + 1) ⟨x.1, [], []⟩ x.2) = .error f → _ := he
    -- table = Table()
    intro y dy ny ndy ney
    have sy : Same H2 (upd (upd H2 dy (.own y)) y (.ins (He.ga K "Table") dy [])) := fun b o e => by
      rw [upd_ne (ne_of_none e ny), upd_ne (ne_of_none e ndy)]
      exact e
    have hyy : (upd (upd H2 dy (.own y)) y (.ins (He.ga K "Table") dy [])) y = some (.ins (He.ga K "Table") dy []) := upd_same
    refine ⟨y, dy, rfl, hyy, fun cl rl ql H3 ncl nrl nql e1 e2 e3 hcl hrl hql hy3 b3 => ⟨rfl, ?_⟩⟩
    -- what stands of H
    have s2 : Same H H2 := fun b o e => b2 b o (sx b o e) (by simpa using ne_of_none e nr)
    have s3 : Same H H3 := fun b o e => b3 b o (sy b o (s2 b o e)) (by simpa using ne_of_none (s2 b o e) ny)
    have s23 : Same H2 H3 := fun b o e => b3 b o (sy b o e) (by simpa using ne_of_none e ny)
    have hr2 : ∃ o, H2 r = some o := by
      obtain ⟨_, _, _, _, _, X⟩ := R2
      exact ⟨_, X.ins⟩
    obtain ⟨ro, hr2⟩ := hr2
    have nclH2 : H2 cl = none := sy.free ncl
    have nrlH2 : H2 rl = none := sy.free nrl
    have nqlH2 : H2 ql = none := sy.free nql
    have yM : y ∉ [r, cl, rl, ql] := by
      intro z
      simp only [List.mem_cons, List.not_mem_nil, or_false] at z
      rcases z with rfl | rfl | rfl | rfl
      · rw [hr2] at ny; cases ny
      · cases hyy.symm.trans ncl
      · cases hyy.symm.trans nrl
      · cases hyy.symm.trans nql
    have hta : TbI K (gP H H3 r cl rl ql) y cl rl ql := ⟨dy, by rw [gP, cut_out yM]; exact newer_of (s2.free ny) hy3⟩
    have sG : Same (newer (upd (upd H dx (.own r)) r (.ins (He.ga K "Reader") dx [])) H2) (gP H H3 r cl rl ql) := fun b o q => by
      obtain ⟨q1, q2⟩ := newer_some q
      have hb : b ∉ [r, cl, rl, ql] := by
        intro z
        simp only [List.mem_cons, List.not_mem_nil, or_false] at z
        rcases z with rfl | rfl | rfl | rfl
        · cases hxr.symm.trans q1
        · rw [nclH2] at q2; cases q2
        · rw [nrlH2] at q2; cases q2
        · rw [nqlH2] at q2; cases q2
      rw [gP, cut_out hb]
      exact newer_of (sx.free q1) (s23 b o q2)
    have R3 : RdAt K (gP H H3 r cl rl ql) H3 r l := R2.up sG (cut_in (by simp)) gP_in (fun o e => s23 _ _ e)
    refine ⟨_, rfl, _, rfl, r, y, gP H H3 r cl rl ql, l, cl, rl, ql, rfl, hta, R3, hcl, cut_in (by simp), fun cs l' ec H4 as R4 b4 hcl4 hca hcs => ?_, fun f hf => (he f (by rw [hf]; rfl)).anew s3 (by intro x hx; simp only [List.mem_cons, List.not_mem_nil, or_false] at hx; rcases hx with rfl | rfl; exact nr; exact s2.free nclH2)⟩
    rw [ec] at hq he
    have hq : ∀ t, takeLines (l'.length + 1) ⟨cs, [], []⟩ l' = .ok t → _ := hq
    have he : ∀ f, takeLines (l'.length + 1) ⟨cs, [], []⟩ l' = .error f → _ := he
    have sG4 : Same (gP H H3 r cl rl ql) (gP H H4 r cl rl ql) := gP_up b4 (by simp)
    have hrlr := R3.ne hrl
    have hqlr := R3.ne hql
    have P4 : Pst K H H4 r y cl rl ql l' ⟨cs, [], []⟩ :=
      ⟨hta.same sG4, R4.up sG4 (cut_in (by simp)) gP_in (fun o e => e), ⟨as, hcl4, hca.imp (ColA.same sG4)⟩, ⟨[], b4 _ _ hrl (by simpa using ⟨hrlr, Ne.symm e1⟩), trivial⟩, ⟨[], b4 _ _ hql (by simpa using ⟨hqlr, Ne.symm e2⟩), trivial⟩,
        hcs.2, by simp, by simp, nr, s2.free nclH2, s2.free nrlH2, s2.free nqlH2, same_but s3 b4 (by intro x hx; simp only [List.mem_cons, List.not_mem_nil, or_false] at hx; rcases hx with rfl | rfl; exact nr; exact s2.free nclH2), e1, e2, e3⟩
    refine ⟨fun m σ H5 => ∃ t l5 n, m = l5.length ∧ l5.length ≤ n ∧ σ = [some (.ref a), some (.ref r), some (.ref y)] ∧ Pst K H H5 r y cl rl ql l5 t ∧ takeLines (l'.length + 1) ⟨cs, [], []⟩ l' = takeLines (n + 1) t l5, ⟨_, _, l', l'.length, rfl, Nat.le_refl _, rfl, P4, rfl⟩, ?_⟩
    rintro m σ H5 ⟨t, l5, n, rfl, hn, rfl, S, heq⟩
    rw [takeLines_succ n t l5] at heq
    obtain ⟨rdx, tl, ts, i, len, X⟩ := S.rd
    refine ⟨_, rfl, _, _, _, _, _, rfl, X.ins, cl_Reader T, na_Reader_at T, rd_at, _, rfl, _, _, _, _, _, rfl, X.ins, cl_Reader T, na_Reader_tokens T, rd_tokens, _, _, rfl, .inl (SqL.of (X.same _ _ X.toks)), _, _, rfl, rfl, _, rfl, ?_⟩
    rw [List.length_map]
    rcases X.cases with ⟨hi, hl5⟩ | ⟨u, l6, ua, ue, udx, uf, uv, hi, hl5, hua, huG, huv, _⟩
    · rw [if_pos (by rw [hl5]; rfl)] at heq
      refine ifF (decide_eq_false (by omega)) ⟨_, rfl, hq t heq H5 y S.same ?_⟩
      obtain ⟨ca, hc1, hc2⟩ := S.cols
      obtain ⟨ra, hr1, hr2⟩ := S.rows
      obtain ⟨qa, hq1, hq2⟩ := S.asks
      have sN : Same (gP H H5 r cl rl ql) (newer H H5) := cut_same _ _
      exact ⟨cl, rl, ql, S.tb.same sN, ⟨ca, newer_of S.n2 hc1, hc2.imp (ColA.same sN)⟩, ⟨ra, newer_of S.n3 hr1, hr2.imp (RowA.same sN)⟩, ⟨qa, newer_of S.n4 hq1, hq2.imp (AskA.same sN)⟩⟩
    · have hnl : next .last l5 = false := by
        rw [hl5]
        have := huv.last
        show tokEq u.tok .last = false
        cases e : u.tok with
        | last => exact absurd e this
        | name b => rfl
        | num n => rfl
        | sign c => rfl
      rw [hnl, if_neg Bool.false_ne_true] at heq
      refine ifT (decide_eq_true (by omega)) ⟨_, fun _ _ z => z, _, rfl, _, rfl, r, y, H, l5, cl, rl, ql, t, rfl, S, fun t' l7 e7 H6 S6 b6 => ?_, fun f hf => (he f (by rw [heq, hf]; rfl)).anew S.same (by intro x hx; simp only [List.mem_cons, List.not_mem_nil, or_false] at hx; rcases hx with rfl | rfl | rfl; exact nr; exact s2.free nrlH2; exact s2.free nqlH2)⟩
      have hl7 := lineOf_len e7
      obtain ⟨n, rfl⟩ : ∃ k, n = k + 1 := ⟨n - 1, by omega⟩
      rw [e7] at heq
      exact ⟨l7.length, hl7, t', l7, n, rfl, by omega, rfl, S6, heq⟩
end
end Bw
set_option Elab.async false
set_option linter.all false
set_option maxRecDepth 100000
set_option maxHeartbeats 4000000
namespace Bw
open VamvsBase (PTok Toks Bytes PName token tokens numberOf decimal word RESERVED lex here next nextWord tokEq takeName takeWord takeSign wrong)
open Vamvsa (takeColumns takeNat takeValues takeInt takeAsked takeTimes takeAsk takeLines read)
/-! ### what a read table is like -/
def NmOk (l : Toks) : Prop := ∀ t ∈ l, ∀ b, t.tok = .name b → b.length ≤ 16
theorem lex_names : ∀ (n at_ : Nat) (b : Bytes) (l : Toks), lex n at_ b = .ok l → NmOk l
  | 0, at_, b, l, h => by
    unfold lex at h
    injection h with h
    rw [← h]
    intro t ht b hb
    rw [List.mem_singleton] at ht
    rw [ht] at hb
    cases hb
  | n + 1, at_, [], l, h => by
    unfold lex at h
    injection h with h
    rw [← h]
    intro t ht b hb
    rw [List.mem_singleton] at ht
    rw [ht] at hb
    cases hb
  | n + 1, at_, b :: r, l, h => by
    unfold lex at h
    split at h
    · exact lex_names n _ _ l h
    · split at h
      · exact lex_names n _ _ l h
      · split at h
        · cases h
        · rename_i x hx
          cases e : lex n (at_ + x.2) ((b :: r).drop x.2) with
          | error f => rw [e] at h; cases h
          | ok l1 =>
            have ih := lex_names n _ _ l1 e
            rw [e] at h
            injection h with h
            rw [← h]
            intro t ht c hc
            rcases List.mem_cons.mp ht with q | q
            · rw [q] at hc
              have hc : x.1 = .name c := hc
              unfold token at hx
              dsimp only at hx
              split at hx
              · split at hx
                · cases hx
                · rename_i hn
                  injection hx with hx
                  rw [← hx] at hc
                  injection hc with hc
                  rw [← hc]
                  exact Nat.le_of_not_lt hn
              · split at hx
                · cases e2 : numberOf ((b :: r).takeWhile VamvsBase.isDigit) with
                  | none => rw [e2] at hx; cases hx
                  | some k => rw [e2] at hx; injection hx with hx; rw [← hx] at hc; cases hc
                · split at hx
                  · injection hx with hx; rw [← hx] at hc; cases hc
                  · cases hx
            · exact ih t q c hc
theorem NmOk.drop {l : Toks} (h : NmOk l) (n : Nat) : NmOk (l.drop n) := fun t ht => h t (List.mem_of_mem_drop ht)
theorem takeWord_drop {s : String} {l l' : Toks} (h : takeWord s l = .ok l') : l' = l.drop 1 := by
  unfold takeWord VamvsBase.taken at h
  split at h
  · injection h with h; exact h.symm
  · cases h
theorem takeColumns_names : ∀ (n : Nat) (cs : List Bytes) (l : Toks) (x : List Bytes × Toks), NmOk l → (∀ c ∈ cs, c.length ≤ 16) → cs.length ≤ 4 → takeColumns n cs l = .ok x → (∀ c ∈ x.1, c.length ≤ 16) ∧ x.1.length ≤ 4
  | 0, cs, l, x, _, _, _, h => by cases h
  | n + 1, cs, l, x, hl, hc, h4, h => by
    unfold takeColumns at h
    cases e : takeName l with
    | error f => rw [e] at h; cases h
    | ok y =>
      rw [e] at h
      have h : (if Vamvsa.COLUMNS ≤ cs.length then (.error ⟨4, y.1.place⟩ : Except VamvsBase.Fault (List Bytes × Toks)) else if cs.contains y.1.name = true then .error ⟨5, y.1.place⟩ else if next (.sign 44) y.2 = true then takeColumns n (cs ++ [y.1.name]) (y.2.drop 1) else (takeSign 59 y.2).map fun m => (cs ++ [y.1.name], m)) = .ok x := h
      have hy : y.1.name.length ≤ 16 ∧ NmOk y.2 := by
        unfold takeName at e
        split at e
        · rename_i p b r
          split at e
          · cases e
          · injection e with e
            rw [← e]
            exact ⟨hl ⟨p, .name b⟩ (by simp) b rfl, fun t ht => hl t (List.mem_cons_of_mem _ ht)⟩
        · cases e
      have hc' : ∀ c ∈ cs ++ [y.1.name], c.length ≤ 16 := by
        intro c q
        rcases List.mem_append.mp q with q | q
        · exact hc c q
        · rw [List.mem_singleton] at q; rw [q]; exact hy.1
      split at h
      · cases h
      · rename_i h4'
        have h4' : ¬ 4 ≤ cs.length := h4'
        have hl' : (cs ++ [y.1.name]).length ≤ 4 := by rw [List.length_append]; show cs.length + 1 ≤ 4; omega
        split at h
        · cases h
        · split at h
          · exact takeColumns_names n _ _ x (hy.2.drop 1) hc' hl' h
          · cases e3 : takeSign 59 y.2 with
            | error f => rw [e3] at h; cases h
            | ok m =>
              rw [e3] at h
              injection h with h
              rw [← h]
              exact ⟨hc', hl'⟩
theorem add_lt {g i n : Nat} (hg : g < 2 ^ n) (hi : i < n) (h : ¬ g / 2 ^ i % 2 = 1) : g + 2 ^ i < 2 ^ n := by
  have hb : g.testBit i = false := by
    rw [Nat.testBit_eq_decide_div_mod_eq]
    exact decide_eq_false h
  rw [Bk.add_or i g hb]
  exact Bk.or_lt hg hi
theorem takeAsked_lt (cs : List Bytes) : ∀ (n g : Nat) (l : Toks) (x : Nat × Toks), g < 2 ^ cs.length → takeAsked cs n g l = .ok x → x.1 < 2 ^ cs.length
  | 0, g, l, x, _, h => by cases h
  | n + 1, g, l, x, hg, h => by
    rw [takeAsked_succ] at h
    cases e : askOne cs g l with
    | error f => rw [e] at h; cases h
    | ok p =>
      obtain ⟨_, i, h1, h2, h3⟩ := askOne_len (g' := p.1) (l' := p.2) e
      have hp : p.1 < 2 ^ cs.length := by rw [h3]; exact add_lt hg h1 h2
      rw [e] at h
      have h : tailA cs n p.1 p.2 = .ok x := h
      unfold tailA at h
      split at h
      · exact takeAsked_lt cs n _ _ x hp h
      · injection h with h
        rw [← h]
        exact hp
structure WF (t : Vamvsa.Table) : Prop where
  wc : t.cols.length ≤ 4
  nm : ∀ c ∈ t.cols, c.length ≤ 16
  wr : t.rows.length ≤ 16
  row : ∀ r ∈ t.rows, r.vs.length = t.cols.length ∧ (∀ v ∈ r.vs, v ≤ 9) ∧ -1000 ≤ r.m ∧ r.m ≤ 1000
  wa : t.asks.length ≤ 8
  ask : ∀ a ∈ t.asks, a.g < 2 ^ t.cols.length ∧ 1 ≤ a.k ∧ a.k ≤ 99
theorem takeAsk_wf {cs : List Bytes} {l m : Toks} {a : Vamvsa.Ask} (h : takeAsk cs l = .ok (a, m)) : a.g < 2 ^ cs.length ∧ 1 ≤ a.k ∧ a.k ≤ 99 := by
  rw [takeAsk_eq] at h
  cases e1 : (if nextWord "times" l = true ∨ next (.sign 59) l = true then (.ok (0, l) : Except VamvsBase.Fault (Nat × Toks)) else takeAsked cs (l.length + 1) 0 l) with
  | error f => rw [e1] at h; cases h
  | ok g =>
    have h1 : g.1 < 2 ^ cs.length := by
      split at e1
      · injection e1 with e1
        rw [← e1]
        exact Nat.two_pow_pos _
      · exact takeAsked_lt _ _ _ _ _ (Nat.two_pow_pos _) e1
    rw [e1] at h
    have h : restAsk g.1 g.2 = .ok (a, m) := h
    unfold restAsk at h
    cases e2 : takeTimes g.2 with
    | error f => rw [e2] at h; cases h
    | ok k =>
      rw [e2] at h
      have h : ((takeSign 59 k.2).map fun m => ((⟨g.1, k.1⟩ : Vamvsa.Ask), m)) = .ok (a, m) := h
      cases e3 : takeSign 59 k.2 with
      | error f => rw [e3] at h; cases h
      | ok m' =>
        rw [e3] at h
        injection h with h
        injection h with h1' _
        rw [← h1']
        exact ⟨h1, (takeTimes_len e2).2⟩
theorem lineOf_wf {t t' : Vamvsa.Table} {l l' : Toks} (W : WF t) (h : lineOf t l = .ok (t', l')) : WF t' := by
  unfold lineOf at h
  split at h
  · split at h
    · cases h
    · rename_i hn
      cases e : rowOf t.cols.length (l.drop 1) with
      | error f => rw [e] at h; cases h
      | ok x =>
        rw [e] at h
        injection h with h
        injection h with h1 h2
        have hr := (rowOf_len (row := x.1) (m := x.2) e).2
        rw [← h1]
        refine ⟨W.wc, W.nm, ?_, ?_, W.wa, W.ask⟩
        · show (t.rows ++ [x.1]).length ≤ 16
          rw [List.length_append]; show t.rows.length + 1 ≤ 16; omega
        · intro r hrm
          have hrm : r ∈ t.rows ++ [x.1] := hrm
          rcases List.mem_append.mp hrm with q | q
          · exact W.row r q
          · rw [List.mem_singleton] at q; rw [q]; exact hr
  · cases ek : takeWord "ask" l with
    | error f => rw [ek] at h; cases h
    | ok r =>
      rw [ek] at h
      have h : (if 8 ≤ t.asks.length then (.error ⟨4, here l⟩ : Except VamvsBase.Fault (Vamvsa.Table × Toks)) else (takeAsk t.cols r).map fun x => ({ t with asks := t.asks ++ [x.1] }, x.2)) = .ok (t', l') := h
      split at h
      · cases h
      · rename_i hn
        cases e : takeAsk t.cols r with
        | error f => rw [e] at h; cases h
        | ok x =>
          rw [e] at h
          injection h with h
          injection h with h1 h2
          have hr := takeAsk_wf (a := x.1) (m := x.2) e
          rw [← h1]
          refine ⟨W.wc, W.nm, W.wr, W.row, ?_, ?_⟩
          · show (t.asks ++ [x.1]).length ≤ 8
            rw [List.length_append]; show t.asks.length + 1 ≤ 8; omega
          · intro a hrm
            have hrm : a ∈ t.asks ++ [x.1] := hrm
            rcases List.mem_append.mp hrm with q | q
            · exact W.ask a q
            · rw [List.mem_singleton] at q; rw [q]; exact hr
theorem takeLines_wf : ∀ (n : Nat) (t t' : Vamvsa.Table) (l : Toks), WF t → takeLines n t l = .ok t' → WF t'
  | 0, t, t', l, W, h => by cases h
  | n + 1, t, t', l, W, h => by
    rw [takeLines_succ n t l] at h
    split at h
    · injection h with h; rw [← h]; exact W
    · cases e : lineOf t l with
      | error f => rw [e] at h; cases h
      | ok x =>
        rw [e] at h
        exact takeLines_wf n x.1 t' x.2 (lineOf_wf (t' := x.1) (l' := x.2) W e) h
theorem read_wf {b : Bytes} {t : Vamvsa.Table} (h : read b = .ok t) : WF t := by
  rw [read_eq] at h
  split at h
  · cases h
  · cases e : lex (b.length + 1) 0 b with
    | error f => rw [e] at h; cases h
    | ok l =>
      rw [e] at h
      have h : ((colsOf l).bind fun x => takeLines (x.2.length + 1) ⟨x.1, [], []⟩ x.2) = .ok t := h
      cases e2 : colsOf l with
      | error f => rw [e2] at h; cases h
      | ok x =>
        rw [e2] at h
        have hx : (∀ c ∈ x.1, c.length ≤ 16) ∧ x.1.length ≤ 4 := by
          unfold colsOf at e2
          cases e3 : takeWord "columns" l with
          | error f => rw [e3] at e2; cases e2
          | ok r =>
            rw [e3] at e2
            have hr : NmOk r := by rw [takeWord_drop e3]; exact (lex_names _ _ _ _ e).drop 1
            exact takeColumns_names _ _ _ x hr (by intro c q; cases q) (Nat.zero_le _) e2
        exact takeLines_wf _ _ _ _ ⟨hx.2, hx.1, Nat.zero_le _, (by intro r q; cases q), Nat.zero_le _, (by intro a q; cases q)⟩ h
end Bw
set_option Elab.async false
set_option linter.all false
set_option maxRecDepth 100000
set_option maxHeartbeats 4000000
namespace Bw
open PySem PySem.Spec PyProof.Rows L2
section
variable {P : Program} {w : World} {K : PySem.W.Frag} {mg : Str → Option Value} {base : Heap}
open VamvsBase (Bytes word joined showNat showInt)
open Vamvsa (commas columnsOf showRow showAsk)
/-! ### texts -/
theorem cpV_append (a b : Str) : cpV (a ++ b) = cpV a ++ cpV b := by
  show ((a.cps ++ b.cps).toList.map _) = _
  rw [Array.toList_append, List.map_append]
  rfl
theorem byV_append (a b : Bytes) : byV (a ++ b) = byV a ++ byV b := List.map_append
theorem cpV_len (z : Str) : (cpV z).length = z.length := by
  show (z.cps.toList.map _).length = z.cps.size
  rw [List.length_map, Array.length_toList]
theorem cp_byte {z : Str} {b : Bytes} (e : cpV z = byV b) : z.length = b.length := by rw [← cpV_len, e, byV_len]
theorem small_len {n : Nat} (h : n ≤ 100000) : n ≤ sizeLine := by rw [sizeLine_eq]; omega
/-- spelled, as bytes -/
theorem spelled_b {z : Str} {b : Bytes} {H : Hp} {Q : VK} {E : XK} (e : cpV z = byV b) (hb : b.length ≤ 100000) (h : ∀ p, H p = none → Q (.ref p) (upd H p (.lst ((byV b).map V.int)))) : sp_spelled [.str z] H Q E :=
  ⟨z, rfl, by rw [cp_byte e]; exact small_len hb, fun p hp => by rw [e]; exact h p hp⟩
theorem nat_text : ∀ n : Nat, n < 1001 → cpV (Str.ofString (toString ((n : Nat) : Int))) = byV (showNat n) := by decide +kernel
theorem neg_text : ∀ n : Nat, n < 1001 → 1 ≤ n → cpV (Str.ofString (toString (-(n : Int)))) = byV (45 :: showNat n) := by decide +kernel
theorem int_text {m : Int} (h1 : -1000 ≤ m) (h2 : m ≤ 1000) : cpV (Str.ofString (toString m)) = byV (showInt m) := by
  unfold showInt
  split
  · have := neg_text m.natAbs (by omega) (by omega)
    rw [show -(m.natAbs : Int) = m by omega] at this
    exact this
  · have := nat_text m.natAbs (by omega)
    rw [show (m.natAbs : Int) = m by omega] at this
    exact this
theorem nat_len : ∀ n : Nat, n < 1001 → (showNat n).length ≤ 4 := by decide +kernel
theorem int_len {m : Int} (h1 : -1000 ≤ m) (h2 : m ≤ 1000) : (showInt m).length ≤ 5 := by
  unfold showInt
  have := nat_len m.natAbs (by omega)
  split
  · rw [List.length_cons]; omega
  · omega
theorem log_small {i : Int} (h : i.natAbs ≤ 1000) : i.natAbs.log2 < 1920 := by
  have : i.natAbs.log2 ≤ i.natAbs := Nat.log2_le_self _
  omega
theorem t_comma : cpV (Str.ofString ", ") = byV (word ", ") := by decide +kernel
/-! ### joined -/
theorem joined_snoc (s : Bytes) (x : Bytes) : ∀ l : List Bytes, joined s (l ++ [x]) = if l = [] then x else joined s l ++ s ++ x
  | [] => rfl
  | [y] => rfl
  | y :: z :: r => by
    have := joined_snoc s x (z :: r)
    rw [if_neg (by simp)] at this
    rw [if_neg (by simp)]
    show y ++ s ++ joined s (z :: r ++ [x]) = y ++ s ++ joined s (z :: r) ++ s ++ x
    rw [this]
    simp [List.append_assoc]
theorem joined_len (s : Bytes) : ∀ l : List Bytes, (∀ b ∈ l, b.length ≤ 50) → (joined s l).length ≤ l.length * (50 + s.length)
  | [], _ => Nat.zero_le _
  | [x], h => by
    have := h x (by simp)
    show x.length ≤ 1 * (50 + s.length)
    omega
  | x :: y :: r, h => by
    have h1 := h x (by simp)
    have h2 := joined_len s (y :: r) fun b hb => h b (by simp at hb ⊢; exact .inr hb)
    show (x ++ s ++ joined s (y :: r)).length ≤ (r.length + 1 + 1) * (50 + s.length)
    rw [List.length_append, List.length_append]
    have e : (r.length + 1 + 1) * (50 + s.length) = (y :: r).length * (50 + s.length) + (50 + s.length) := by
      rw [List.length_cons, Nat.add_mul (r.length + 1) 1, Nat.one_mul]
    omega
def BysA (G : Hp) (p : Addr) (b : Bytes) : Prop := G p = some (.lst ((byV b).map V.int))
theorem BysA.same {G H : Hp} (s : Same G H) (a : Addr) (c : Bytes) (h : BysA G a c) : BysA H a c := s _ _ h
theorem take_snoc {α : Type} {l : List α} {i : Nat} {x : α} (h : l[i]? = some x) : l.take (i + 1) = l.take i ++ [x] := by
  rw [List.take_succ, h]; rfl
theorem take_nil {α : Type} {l : List α} {i : Nat} (h : i < l.length) : l.take i = [] ↔ i = 0 := by
  constructor
  · intro e
    have := congrArg List.length e
    rw [List.length_take, List.length_nil] at this
    omega
  · rintro rfl; rfl
/-- a new list of bytes -/
def NewL (H : Hp) (Q : VK) (b : Bytes) : Prop := ∀ (H' : Hp) (p : Addr), Same H H' → H p = none → H' p = some (.lst ((byV b).map V.int)) → Q (.ref p) H'
def sp_with_commas : Sp := fun vs H Q _ => ∃ (a : Addr) (bs : List Bytes), vs = [.ref a] ∧ LstA (BysA H) H a bs ∧ (∀ b ∈ bs, b.length ≤ 50) ∧ bs.length ≤ 16 ∧ NewL H Q (commas bs)
theorem sc_with_commas : FnScope ["rows", "found", "at", "row"] ["rows"] (defScope (top 81)) := ⟨rfl, rfl, rfl, by decide +kernel, rfl, by decide +kernel, by decide +kernel⟩
theorem ok_with_commas (T : Txt K mg) : Def P w K mg base CX0 2 "with_commas" ["rows"] (sp_with_commas) := by
  obtain ⟨fd, F⟩ := fd_with_commas T
  refine Def.mk' F sc_with_commas (gl_with_commas T) (fun vs H Q E h => by obtain ⟨_, _, rfl, _⟩ := h; rfl) (fun _ _ _ _ _ _ us hl => match us, hl with | [_], _ => rfl) fun cdv A outer s H vs Q E hr h => ?_
  refine ⟨_, PSs.nox (pss_cons (ps_set (i := 1) sc_with_commas.nd rfl (Or.inl rfl) (pe_lst pa_nil))
    (pss_cons (ps_for PassesOwn.never rfl (pi_enum rfl (fr_enumerate T) (pa_cons (pv 0) pa_nil)) (pg_tup rfl (pgs_cons (pg_name (i := 2) sc_with_commas.nd rfl (Or.inl rfl)) (pgs_cons (pg_name (i := 3) sc_with_commas.nd rfl (Or.inl rfl)) pgs_nil)))
      (pss_cons (ps_if (pt_cmpR op_gt (pv 2) pe_int (nomark _))
        (pss_one (ps_expr (pe_bm PySem.F.plainAttrs_list PySem.F.slot_list_extend PySem.F.type_list_extend mt_extend (pv 1) (pa_cons (Def.call (ok_spelled T) hr (by decide) (pa_cons pe_str pa_nil)) pa_nil))))
        (pss_nil))
      (pss_one (ps_expr (pe_bm PySem.F.plainAttrs_list PySem.F.slot_list_extend PySem.F.type_list_extend mt_extend (pv 1) (pa_cons (pv 3) pa_nil))))))
    (pss_one (ps_ret (pv 1))))), ?_⟩
  obtain ⟨a, bs, rfl, ⟨as, ha, hal⟩, hb, h16, h⟩ := h
  have hlen := hal.len
  refine ⟨by show 0 ≤ sizeLine; decide, fun D hD => ?_⟩
  have sD : Same H (upd H D (.lst [])) := same_new hD
  refine ⟨_, rfl, a, as.map V.ref, rfl, SqL.of (sD _ _ ha), ?_⟩
  refine for_it (walk_enum (xs := as.map V.ref)) (fun i σ H' => Same H H' ∧ (∃ u v, σ = [some (.ref a), some (.ref D), u, v]) ∧ H' D = some (.lst ((byV (commas (bs.take i))).map V.int)))
    ⟨sD, ⟨_, _, rfl⟩, upd_same⟩ (fun i σ H' _ p => SqL.of (p.1 _ _ ha)) ?_ ?_
  · rintro i x σ H1 H2 hi ⟨s1, ⟨u, v, rfl⟩, hD1⟩ ⟨Tp, x0, y, rfl, hT, rfl, hx, hy⟩
    injection hx with hx
    subst hx
    rw [List.length_map, hlen] at hi
    have hbi : bs[i]? = some bs[i] := List.getElem?_eq_getElem hi
    obtain ⟨p, hp, hpb⟩ := hal.get hbi
    have hy : (as.map V.ref)[i]? = some y := hy
    have hy : y = V.ref p := by rw [List.getElem?_map, hp] at hy; exact (Option.some.inj hy).symm
    subst hy
    have hbl : bs[i].length ≤ 50 := hb _ (List.getElem_mem hi)
    have hjl : (commas (bs.take i)).length ≤ 832 := by
      have h1 := joined_len (word ", ") (bs.take i) fun b q => hb b (List.mem_of_mem_take q)
      have h2 : (bs.take i).length ≤ 16 := by rw [List.length_take]; omega
      have h3 : (50 + (word ", ").length) = 52 := by decide +kernel
      rw [h3] at h1
      show (joined (word ", ") (bs.take i)).length ≤ 832
      omega
    have hDT : D ≠ Tp := fun z => by rw [← z, hD1] at hT; cases hT
    refine ⟨Tp, _, rfl, SqT.of upd_same, rfl, _, _, rfl, _, _, rfl, rfl, ?_⟩
    have s2 : Same H (upd H1 Tp (.tup [V.int (i : Nat), V.ref p])) := s1.trans (same_new hT)
    have hD2 : (upd H1 Tp (.tup [V.int (i : Nat), V.ref p])) D = some (.lst ((byV (commas (bs.take i))).map V.int)) := by rw [upd_ne hDT]; exact hD1
    generalize upd H1 Tp (.tup [V.int (i : Nat), V.ref p]) = H2 at s2 hD2
    have fin : ∀ (H3 : Hp) (pre : Bytes), Same H H3 → H3 D = some (.lst ((byV pre).map V.int)) → pre.length ≤ 900 → pre ++ bs[i] = commas (bs.take (i + 1)) → 
        tDrop (tBM K "list" rExtend (tVar 1) (tCons (tVar 3) tNil))
          { nx := fun σ H' => Same H H' ∧ (∃ u v, σ = [some (.ref a), some (.ref D), u, v]) ∧ H' D = some (.lst ((byV (commas (bs.take (i + 1)))).map V.int)), rt := Q }
          [some (.ref a), some (.ref D), some (.int (i : Nat)), some (.ref p)] H3 := fun H3 pre s3 hD3 hl3 e3 => by
      refine ⟨_, rfl, .inl ⟨rfl, _, SqL.of hD3⟩, _, rfl, _, _, _, _, rfl, rfl, hD3, s3 _ _ hpb, ?_, ?_, ⟨_, _, rfl⟩, ?_⟩
      · rw [List.length_map, List.length_map, byV_len, byV_len]
        exact small_len (by omega)
      · exact fun c o q => by rw [upd_ne (ne_of_none q hD)]; exact s3 _ _ q
      · rw [upd_same, ← List.map_append, ← byV_append, e3]
    refine ⟨_, rfl, _, _, rfl, rfl, _, rfl, ?_⟩
    by_cases c : i = 0
    · refine ifF (decide_eq_false (by omega)) (fin H2 _ s2 hD2 (by omega) ?_)
      rw [take_snoc hbi]
      show _ = joined _ _
      rw [joined_snoc, if_pos ((take_nil hi).mpr c), (take_nil hi).mpr c]
      rfl
    · refine ifT (decide_eq_true (by omega)) ⟨_, rfl, .inl ⟨rfl, _, SqL.of hD2⟩, ?_⟩
      dsimp only [tCons, tC, tNil, tCall, List.append_nil]
      refine spelled_b t_comma (by decide +kernel) fun q hq => ?_
      have hDq : D ≠ q := fun z => by rw [← z, hD2] at hq; cases hq
      refine ⟨_, _, _, _, rfl, rfl, (upd_ne hDq).trans hD2, upd_same, ?_, ?_⟩
      · rw [List.length_map, List.length_map, byV_len, byV_len]
        have : (word ", ").length = 2 := by decide +kernel
        exact small_len (by omega)
      · refine fin _ (commas (bs.take i) ++ word ", ") ?_ ?_ ?_ ?_
        · exact fun c o z => by rw [upd_ne (ne_of_none z hD), upd_ne (ne_of_none (s2 _ _ z) hq)]; exact s2 _ _ z
        · rw [upd_same, ← List.map_append, ← byV_append]
        · rw [List.length_append]
          have : (word ", ").length = 2 := by decide +kernel
          omega
        · rw [take_snoc hbi]
          show joined _ _ ++ _ ++ _ = joined _ _
          rw [joined_snoc, if_neg (fun z => c ((take_nil hi).mp z))]
  · rintro σ H1 ⟨s1, ⟨u, v, rfl⟩, hD1⟩
    refine ⟨_, rfl, h H1 D s1 hD ?_⟩
    rw [hD1, List.length_map, hlen, List.take_length]
end
end Bw
set_option Elab.async false
set_option linter.all false
set_option maxRecDepth 100000
set_option maxHeartbeats 4000000
namespace Bw
open PySem PySem.Spec PyProof.Rows L2
section
variable {P : Program} {w : World} {K : PySem.W.Frag} {mg : Str → Option Value} {base : Heap}
open VamvsBase (Bytes word joined showNat showInt)
open Vamvsa (commas columnsOf showRow showAsk)
/-! ### bits, as the machine tells them -/
theorem cast_pow (i : Nat) : ((2 ^ i : Nat) : Int) = 2 ^ i := by
  induction i with
  | zero => rfl
  | succ n ih => rw [Nat.pow_succ, Int.pow_succ, Int.natCast_mul, ih]; rfl
theorem bit1 (g i : Nat) : Builtin.bitAnd ((g : Int) / 2 ^ ((i : Nat) : Int).toNat) 1 = ((g / 2 ^ i % 2 : Nat) : Int) := by
  rw [bitAnd_m1, Int.toNat_natCast, ← cast_pow]
  rfl
theorem and_nat (a b : Nat) : Builtin.bitAnd (a : Int) (b : Int) = ((a &&& b : Nat) : Int) := by
  unfold Builtin.bitAnd
  rw [decide_eq_true (by omega : (0 : Int) ≤ a), decide_eq_true (by omega : (0 : Int) ≤ b)]
  rfl
theorem or_nat (a b : Nat) : Builtin.bitOr (a : Int) (b : Int) = ((a ||| b : Nat) : Int) := by
  rw [Bits.bitOr_pp (by omega) (by omega)]
  rfl
theorem shl1 (i : Nat) : (1 : Int) * 2 ^ ((i : Nat) : Int).toNat = ((2 ^ i : Nat) : Int) := by
  rw [Int.one_mul, Int.toNat_natCast, cast_pow]
theorem bit_eq (g i : Nat) : ((g / 2 ^ i % 2 : Nat) : Int) = if g.testBit i = true then 1 else 0 := by
  rw [Nat.testBit_eq_decide_div_mod_eq]
  by_cases c : g / 2 ^ i % 2 = 1
  · rw [if_pos (decide_eq_true c), c]; rfl
  · rw [if_neg (by simp [c])]; omega
/-- number >> at & 1 == 1 -/
theorem bit_is (g i : Nat) : decide (V.int (Builtin.bitAnd ((g : Int) / 2 ^ ((i : Nat) : Int).toNat) 1) = V.int 1) = g.testBit i := by
  rw [dec_int, bit1, bit_eq]
  cases g.testBit i <;> rfl
theorem bit_not (g i : Nat) : decide (V.int (Builtin.bitAnd ((g : Int) / 2 ^ ((i : Nat) : Int).toNat) 1) = V.int 0) = !g.testBit i := by
  rw [dec_int, bit1, bit_eq]
  cases g.testBit i <;> rfl
/-- a for over a filtered range -/
theorem columnsOf_bit (n g : Nat) : columnsOf n g = (List.range n).filter fun i => g.testBit i := by
  unfold columnsOf
  apply List.filter_congr
  intro i _
  rw [Nat.testBit_eq_decide_div_mod_eq]
  by_cases c : g / 2 ^ i % 2 = 1
  · rw [c]; rfl
  · rw [decide_eq_false c]; exact beq_eq_false_iff_ne.mpr c
theorem sel_succ {α : Type} (p : Nat → Bool) (f : Nat → α) (i : Nat) : ((List.range (i + 1)).filter p).map f = if p i = true then ((List.range i).filter p).map f ++ [f i] else ((List.range i).filter p).map f := by
  rw [List.range_succ, List.filter_append, List.map_append]
  cases h : p i with
  | true => rw [List.filter_cons_of_pos h, if_pos rfl]; rfl
  | false => rw [List.filter_cons_of_neg (by simp [h]), if_neg Bool.false_ne_true]; simp
theorem ifB {b c : Bool} {A B : Prop} (e : b = c) (h1 : c = true → A) (h2 : c = false → B) : if b = true then A else B := by
  subst e
  cases b with
  | true => exact h1 rfl
  | false => exact h2 rfl
theorem ifTF {b : Bool} {A B : Prop} (h1 : b = true → A) (h2 : b = false → B) : if b = true then A else B := by
  cases b with
  | true => exact h1 rfl
  | false => exact h2 rfl
/-- list(..), wherever it stands -/
def rListOf (K : PySem.W.Frag) : List V → Hp → VK → Prop := fun xs H Q => ∃ p ys, xs = [.ref p] ∧ (SqL K H p ys ∨ SqT K H p ys) ∧ ∀ l, H l = none → Q (.ref l) (upd H l (.lst ys))
theorem call_list_K {X : Cx} {K : PySem.W.Frag} (h : X.K = K) : CallR X (.type "list") (rListOf K) := by subst h; exact call_list_of
def sp_names_in (K : PySem.W.Frag) : Sp := fun vs H Q _ => ∃ (ta : Addr) (t : Vamvsa.Table) (g : Nat), vs = [.ref ta, .int (g : Nat)] ∧ TbAt K H ta t ∧ t.cols.length ≤ 4 ∧
  ∀ (H' : Hp) (p : Addr), Same H H' → H p = none → LstA (BysA H') H' p ((columnsOf t.cols.length g).map fun i => t.cols.getD i []) → Q (.ref p) H'
theorem sc_names_in : FnScope ["table", "grouping", "at", "name"] ["table", "grouping"] (defScope (top 82)) := ⟨rfl, rfl, rfl, by decide +kernel, rfl, by decide +kernel, by decide +kernel⟩
theorem ok_names_in (T : Txt K mg) : Def P w K mg base CX0 1 "names_in" ["table", "grouping"] (sp_names_in K) := by
  obtain ⟨fd, F⟩ := fd_names_in T
  refine Def.mk' F sc_names_in (gl_names_in T) (fun vs H Q E h => by obtain ⟨_, _, _, rfl, _⟩ := h; rfl) (fun _ _ _ _ _ _ us hl => match us, hl with | [_, _], _ => rfl) fun cdv A outer s H vs Q E hr h => ?_
  refine ⟨_, PSs.nox (pss_one (ps_ret (pe_lc (own := [("at", 2), ("name", 3)]) (g := gTup K 2 (gCons (gName 2) (gCons (gName 3) gNil))) rfl sc_names_in.nd (pi_enum rfl (fr_enumerate T) (pa_cons (pe_fld (pv 0) rfl) pa_nil)) (blkOk_by (own := [("at", 2), ("name", 3)]) (N := ["table", "grouping", "at", "name"]) (sc := defScope (top 82)) (by decide +kernel)) (fun _ _ _ _ _ => pg_tup rfl (pgs_cons (pg_name (i := 2) sc_names_in.nd rfl (Or.inl rfl)) (pgs_cons (pg_name (i := 3) sc_names_in.nd rfl (Or.inl rfl)) pgs_nil))) (fun _ _ _ _ _ => pts_one (pt_cmpR op_eq (pe_op op_and (pe_op op_shr (pv 1) (pv 2)) pe_int) pe_int (nomark _))) (fun _ _ _ _ _ => pe_callTy (call_list_K (K := K) rfl) (by rfl) (fr_list T) PyProof.Rows.boot_list (pa_cons (pv 3) pa_nil))))), ?_⟩
  obtain ⟨ta, t, g, rfl, ⟨cl, rl, ql, ⟨tdx, hta⟩, ⟨ca, hcl, hca⟩, _⟩, h4, h⟩ := h
  have hlen := hca.len
  refine ⟨_, rfl, _, _, _, _, _, rfl, hta, cl_Table T, na_Table_columns T, tb_columns, cl, ca.map V.ref, rfl, SqL.of hcl, fun D hD => ?_⟩
  refine lc_it (walk_enum (xs := ca.map V.ref)) (fun i H' => Same H H' ∧ ∃ as, H' D = some (.lst (as.map V.ref)) ∧ as.length ≤ i ∧ Al2 (BysA (cut [D] H')) as (((List.range i).filter fun i => g.testBit i).map fun i => t.cols.getD i []))
    ⟨same_new hD, [], upd_same, Nat.le_refl _, trivial⟩ (fun i H' _ p => SqL.of (p.1 _ _ hcl)) ?_ ?_
  · rintro i x H1 H2 hi ⟨s1, as, hD1, hal, hac⟩ ⟨Tp, x0, y, rfl, hT, rfl, hx, hy⟩
    injection hx with hx
    subst hx
    rw [List.length_map, hlen] at hi
    have hci : t.cols[i]? = some t.cols[i] := List.getElem?_eq_getElem hi
    obtain ⟨p, hp, hpc⟩ := hca.get hci
    have hy : (ca.map V.ref)[i]? = some y := hy
    have hy : y = V.ref p := by rw [List.getElem?_map, hp] at hy; exact (Option.some.inj hy).symm
    subst hy
    have hDT : D ≠ Tp := fun z => by rw [← z, hD1] at hT; cases hT
    have hgd : t.cols.getD i [] = t.cols[i] := by rw [List.getD_eq_getElem?_getD, hci]; rfl
    have s2 : Same H (upd H1 Tp (.tup [V.int (i : Nat), V.ref p])) := s1.trans (same_new hT)
    have b2 : Same (cut [D] H1) (cut [D] (upd H1 Tp (.tup [V.int (i : Nat), V.ref p]))) := cut_but (.new hT) (fun _ z => z)
    refine ⟨Tp, _, rfl, SqT.of upd_same, rfl, _, _, rfl, _, _, rfl, rfl, rfl, ?_⟩
    refine ⟨_, rfl, _, rfl, _, _, rfl, rfl, Int.natCast_nonneg _, _, _, rfl, rfl, rfl, _, rfl, ifB (bit_is g i) (fun c => ?_) fun c => ?_⟩
    · have hD2 : (upd H1 Tp (.tup [V.int (i : Nat), V.ref p])) D = some (.lst (as.map V.ref)) := by rw [upd_ne hDT]; exact hD1
      refine ⟨_, rfl, _, _, rfl, .inr (SqT.of (s2 _ _ hpc)), fun q hq => ?_⟩
      have hDq : D ≠ q := fun z => by rw [← z, hD2] at hq; cases hq
      refine ⟨as.map V.ref, (upd_ne hDq).trans hD2, ?_, ?_, as ++ [q], ?_, ?_, ?_⟩
      · rw [List.length_map]
        exact Nat.lt_of_lt_of_le (by omega : as.length < 100000) (small_len (Nat.le_refl _))
      · exact fun c o z => by rw [upd_ne (ne_of_none z hD), upd_ne (ne_of_none (s2 _ _ z) hq)]; exact s2 _ _ z
      · rw [upd_same, List.map_append]; rfl
      · rw [List.length_append]; show as.length + 1 ≤ i + 1; omega
      · rw [sel_succ, if_pos c, cut_upd (List.mem_singleton.mpr rfl)]
        refine Al2.snoc ?_ (hac.imp (BysA.same fun c o z => ?_))
        · show cut [D] _ q = _
          rw [cut_out (by simpa using Ne.symm hDq), upd_same, hgd]
        · have z2 := b2 c o z
          obtain ⟨z3, z4⟩ := cut_some z2
          rw [cut_out z3, upd_ne (ne_of_none z4 hq)]
          exact z4
    · refine ⟨s2, as, by rw [upd_ne hDT]; exact hD1, by omega, ?_⟩
      rw [sel_succ, if_neg (by rw [c]; simp)]
      exact hac.imp (BysA.same b2)
  · rintro H1 ⟨s1, as, hD1, hal, hac⟩
    rw [List.length_map, hlen] at hac
    refine h H1 D s1 hD ⟨as, hD1, ?_⟩
    rw [columnsOf_bit]
    exact hac.imp (BysA.same (cut_same _ _))
end
end Bw
set_option Elab.async false
set_option linter.all false
set_option maxRecDepth 100000
set_option maxHeartbeats 4000000
namespace Bw
open PySem PySem.Spec PyProof.Rows L2
section
variable {P : Program} {w : World} {K : PySem.W.Frag} {mg : Str → Option Value} {base : Heap}
open VamvsBase (Bytes word joined showNat showInt)
open Vamvsa (commas columnsOf showRow showAsk)
theorem cat_b {l b : Addr} {x y : Bytes} {H : Hp} {Q : VK} (h1 : H l = some (.lst ((byV x).map V.int))) (h2 : H b = some (.lst ((byV y).map V.int))) (hl : x.length + y.length ≤ 100000)
    (h : ∀ p, H p = none → Q (.ref p) (upd H p (.lst ((byV (x ++ y)).map V.int)))) : rCat (.ref l) (.ref b) H Q := by
  refine ⟨l, b, _, _, rfl, rfl, h1, h2, ?_, fun p hp => ?_⟩
  · rw [List.length_map, List.length_map, byV_len, byV_len]
    exact small_len hl
  · rw [← List.map_append, ← byV_append]
    exact h p hp
theorem spl_len {z : Str} {b : Bytes} (e : cpV z = byV b) (hb : b.length ≤ 100000) : z.length ≤ sizeLine := by rw [cp_byte e]; exact small_len hb
theorem t_ask : cpV (Str.ofString "ask ") = byV (word "ask ") := by decide +kernel
theorem t_blank : cpV (Str.ofString " ") = byV (word " ") := by decide +kernel
theorem t_end : cpV (Str.ofString ";\n") = byV (word ";" ++ [10]) := by decide +kernel
theorem t_times (k : Nat) (h : k < 1001) : cpV (Str.ofString "times " ++ Str.ofString (toString ((k : Nat) : Int)) ++ Str.ofString " ") = byV (word "times " ++ showNat k ++ word " ") := by
  rw [cpV_append, cpV_append, byV_append, byV_append, nat_text k h]
  have e1 : cpV (Str.ofString "times ") = byV (word "times ") := by decide +kernel
  rw [e1, t_blank]
theorem str_append_len (a b : Str) : (a ++ b).length = a.length + b.length := by
  rw [← cpV_len, cpV_append, List.length_append, cpV_len, cpV_len]
theorem str_nat_len (k : Nat) (h : k < 1001) : (Str.ofString (toString ((k : Nat) : Int))).length ≤ 4 := by
  rw [cp_byte (nat_text k h)]
  exact nat_len k h
theorem commas_len {bs : List Bytes} (h : ∀ b ∈ bs, b.length ≤ 50) (h16 : bs.length ≤ 16) : (commas bs).length ≤ 832 := by
  have h1 := joined_len (word ", ") bs h
  have h3 : (50 + (word ", ").length) = 52 := by decide +kernel
  rw [h3] at h1
  show (joined (word ", ") bs).length ≤ 832
  omega
theorem names_of {t : Vamvsa.Table} (h : ∀ c ∈ t.cols, c.length ≤ 16) (h4 : t.cols.length ≤ 4) (g : Nat) : (∀ b ∈ (columnsOf t.cols.length g).map fun i => t.cols.getD i [], b.length ≤ 50) ∧ ((columnsOf t.cols.length g).map fun i => t.cols.getD i []).length ≤ 16 := by
  constructor
  · intro b hb
    obtain ⟨i, hi, rfl⟩ := List.mem_map.mp hb
    rw [List.getD_eq_getElem?_getD]
    cases e : t.cols[i]? with
    | none => exact Nat.zero_le _
    | some c =>
      have := h c (List.mem_of_getElem? e)
      show c.length ≤ 50
      omega
  · rw [List.length_map]
    have : (columnsOf t.cols.length g).length ≤ (List.range t.cols.length).length := List.length_filter_le _ _
    rw [List.length_range] at this
    omega
theorem AskA.f {G : Hp} {q : Addr} {a : Vamvsa.Ask} (h : AskA K G q a) : ∃ dx, G q = some (.ins (He.ga K "Question") dx (quF (.int (a.g : Nat)) (.int (a.k : Nat)))) := h
def sp_shown_question (K : PySem.W.Frag) : Sp := fun vs H Q _ => ∃ (ta qa : Addr) (t : Vamvsa.Table) (a : Vamvsa.Ask), vs = [.ref ta, .ref qa] ∧ TbAt K H ta t ∧ AskA K H qa a ∧ (∀ c ∈ t.cols, c.length ≤ 16) ∧ t.cols.length ≤ 4 ∧ 1 ≤ a.k ∧ a.k ≤ 99 ∧ NewL H Q (showAsk t.cols a)
theorem sc_shown_question : FnScope ["table", "question", "found"] ["table", "question"] (defScope (top 83)) := ⟨rfl, rfl, rfl, by decide +kernel, rfl, by decide +kernel, by decide +kernel⟩
theorem ok_shown_question (T : Txt K mg) : Def P w K mg base CX0 3 "shown_question" ["table", "question"] (sp_shown_question K) := by
  obtain ⟨fd, F⟩ := fd_shown_question T
  refine Def.mk' F sc_shown_question (gl_shown_question T) (fun vs H Q E h => by obtain ⟨_, _, _, _, rfl, _⟩ := h; rfl) (fun _ _ _ _ _ _ us hl => match us, hl with | [_, _], _ => rfl) fun cdv A outer s H vs Q E hr h => ?_
  refine ⟨_, PSs.nox (pss_cons (ps_set (i := 2) sc_shown_question.nd rfl (Or.inl rfl) (pe_op op_cat (Def.call (ok_spelled T) hr (by decide) (pa_cons pe_str pa_nil)) (Def.call (ok_with_commas T) hr (by decide) (pa_cons (Def.call (ok_names_in T) hr (by decide) (pa_cons (pv 0) (pa_cons (pe_fld (pv 1) rfl) pa_nil))) pa_nil))))
    (pss_cons (ps_if (pt_cmpR op_gt (pe_fld (pv 1) rfl) pe_int (nomark _))
      (pss_one (ps_set (i := 2) sc_shown_question.nd rfl (Or.inl rfl) (pe_op op_cat (pv 2) (Def.call (ok_spelled T) hr (by decide) (pa_cons pe_str pa_nil)))))
      (pss_nil))
    (pss_cons (ps_if (pt_cmpR op_gt (pe_fld (pv 1) rfl) pe_int (nomark _))
      (pss_one (ps_set (i := 2) sc_shown_question.nd rfl (Or.inl rfl) (pe_op op_cat (pv 2) (Def.call (ok_spelled T) hr (by decide) (pa_cons (pe_op op_add_str (pe_op op_add_str pe_str (pe_callTy call_str_int (by rfl) (fr_str T) PyProof.Rows.boot_str (pa_cons (pe_fld (pv 1) rfl) pa_nil))) pe_str) pa_nil)))))
      (pss_nil))
    (pss_one (ps_ret (pe_op op_cat (pv 2) (Def.call (ok_spelled T) hr (by decide) (pa_cons pe_str pa_nil)))))))), ?_⟩
  obtain ⟨ta, qa, t, a, rfl, hT, ⟨qx, hq⟩, hn, h4, hk1, hk2, h⟩ := h
  obtain ⟨n1, n2⟩ := names_of hn h4 a.g
  have hcl := commas_len n1 n2
  refine ⟨_, rfl, spl_len t_ask (by decide +kernel), fun p0 hp0 => ?_⟩
  rw [t_ask]
  have s0 : Same H (upd H p0 (.lst ((byV (word "ask ")).map V.int))) := same_new hp0
  have f0 : (upd H p0 (.lst ((byV (word "ask ")).map V.int))) p0 = some (.lst ((byV (word "ask ")).map V.int)) := upd_same
  refine ⟨_, rfl, _, rfl, _, _, _, _, _, rfl, s0 _ _ hq, cl_Question T, na_Question_grouping T, qu_grouping, ta, t, a.g, rfl, hT.same s0, h4, fun H1 p1 s1 hp1 hl1 => ?_⟩
  refine ⟨p1, _, rfl, hl1, n1, n2, fun H2 p2 s2 hp2 f2 => cat_b (s2 _ _ (s1 _ _ f0)) f2 ?_ fun p3 hp3 => ?_⟩
  · have : (word "ask ").length = 4 := by decide +kernel
    omega
  have s3 : Same H (upd H2 p3 (.lst ((byV (word "ask " ++ commas ((columnsOf t.cols.length a.g).map fun i => t.cols.getD i []))).map V.int))) := (s0.trans (s1.trans s2)).trans (same_new hp3)
  have f3 : (upd H2 p3 (.lst ((byV (word "ask " ++ commas ((columnsOf t.cols.length a.g).map fun i => t.cols.getD i []))).map V.int))) p3 = some (.lst ((byV (word "ask " ++ commas ((columnsOf t.cols.length a.g).map fun i => t.cols.getD i []))).map V.int)) := upd_same
  have hl3 : (word "ask " ++ commas ((columnsOf t.cols.length a.g).map fun i => t.cols.getD i [])).length ≤ 836 := by
    rw [List.length_append]
    have : (word "ask ").length = 4 := by decide +kernel
    omega
  generalize hcm : commas ((columnsOf t.cols.length a.g).map fun i => t.cols.getD i []) = cm at s3 f3 hl3 ⊢
  -- the last words
  have last : ∀ (H5 : Hp) (p5 : Addr) (b5 : Bytes), Same H H5 → H p5 = none → H5 p5 = some (.lst ((byV b5).map V.int)) → b5.length ≤ 1000 → b5 ++ (word ";" ++ [10]) = showAsk t.cols a → 
      tRet (tOp rCat (tVar 2) (tCall sp_spelled [] E0 (tCons (tC (.str (Str.ofString ";\n"))) tNil))) { nx := fun x H' => Q .non H', rt := Q } [some (.ref ta), some (.ref qa), some (.ref p5)] H5 := fun H5 p5 b5 s5 hp5 f5 hl5 e5 => by
    refine ⟨_, rfl, _, rfl, spl_len t_end (by decide +kernel), fun p6 hp6 => ?_⟩
    rw [t_end]
    refine cat_b (same_new hp6 _ _ f5) upd_same ?_ fun p7 hp7 => ?_
    · have : (word ";" ++ [10]).length = 2 := by decide +kernel
      omega
    · have s6 : Same H (upd H5 p6 (.lst ((byV (word ";" ++ [10])).map V.int))) := s5.trans (same_new hp6)
      refine h _ p7 (s6.trans (same_new hp7)) (s6.free hp7) ?_
      rw [upd_same, e5]
  -- so often
  have times : ∀ (H4 : Hp) (p4 : Addr) (b4 : Bytes), Same H H4 → H p4 = none → H4 p4 = some (.lst ((byV b4).map V.int)) → b4.length ≤ 900 → b4 ++ (if a.k = 1 then [] else word "times " ++ showNat a.k ++ word " ") ++ (word ";" ++ [10]) = showAsk t.cols a →
      (word "times " ++ showNat a.k ++ word " ").length ≤ 11 → tSeq (tIfS (tTest (tOp (rI0 fun i j => V.bl (decide (j < i))) (tFld K (tVar 1) "times") (tC (.int 1))))
        (tAsg (tOp rCat (tVar 2) (tCall sp_spelled [] E0 (tCons (tOp (fun x y H Q => ∃ i j, x = .str i ∧ y = .str j ∧ i.length + j.length ≤ sizeLine ∧ Q (.str (i ++ j)) H) (tOp (fun x y H Q => ∃ i j, x = .str i ∧ y = .str j ∧ i.length + j.length ≤ sizeLine ∧ Q (.str (i ++ j)) H) (tC (.str (Str.ofString "times "))) (tCB (fun xs H Q => ∃ i, xs = [.int i] ∧ i.natAbs.log2 < 1920 ∧ Q (.str (toString i)) H) (tCons (tFld K (tVar 1) "times") tNil))) (tC (.str (Str.ofString " ")))) tNil))) (gName 2)) tNext)
        (tRet (tOp rCat (tVar 2) (tCall sp_spelled [] E0 (tCons (tC (.str (Str.ofString ";\n"))) tNil)))) { nx := fun x H' => Q .non H', rt := Q } [some (.ref ta), some (.ref qa), some (.ref p4)] H4 := fun H4 p4 b4 s4 hp4 f4 hl4 e4 hl11 => by
    refine ⟨_, rfl, _, _, _, _, _, rfl, s4 _ _ hq, cl_Question T, na_Question_times T, qu_times, _, _, rfl, rfl, _, rfl, ?_⟩
    by_cases c : a.k = 1
    · rw [if_pos c, List.append_nil] at e4
      exact ifF (decide_eq_false (by omega)) (last H4 p4 b4 s4 hp4 f4 (by omega) e4)
    · rw [if_neg c] at e4
      refine ifT (decide_eq_true (by omega)) ⟨_, rfl, _, rfl, _, _, _, _, _, rfl, s4 _ _ hq, cl_Question T, na_Question_times T, qu_times, _, rfl, log_small (by omega), _, _, rfl, rfl, ?_, _, _, rfl, rfl, ?_, _, rfl, ?_, ?_⟩
      · have := str_nat_len a.k (by omega)
        have e6 : (Str.ofString "times ").length = 6 := by decide +kernel
        exact small_len (by omega)
      · have := str_nat_len a.k (by omega)
        have e6 : (Str.ofString "times ").length = 6 := by decide +kernel
        have e1 : (Str.ofString " ").length = 1 := by decide +kernel
        rw [str_append_len]
        exact small_len (by omega)
      · exact spl_len (t_times a.k (by omega)) (by omega)
      · intro p5 hp5
        rw [t_times a.k (by omega)]
        refine cat_b (same_new hp5 _ _ f4) upd_same (by omega) fun p6 hp6 => ?_
        have s5 := s4.trans (same_new (o := .lst ((byV (word "times " ++ showNat a.k ++ word " ")).map V.int)) hp5)
        refine last _ p6 _ (s5.trans (same_new hp6)) (s5.free hp6) upd_same ?_ e4
        rw [List.length_append]; omega
  have htl : (word "times " ++ showNat a.k ++ word " ").length ≤ 11 := by
    rw [List.length_append, List.length_append]
    have := nat_len a.k (by omega)
    have e6 : (word "times ").length = 6 := by decide +kernel
    have e1 : (word " ").length = 1 := by decide +kernel
    omega
  -- a blank
  refine ⟨_, rfl, _, _, _, _, _, rfl, s3 _ _ hq, cl_Question T, na_Question_grouping T, qu_grouping, _, _, rfl, rfl, _, rfl, ?_⟩
  have w1 : word "ask " = word "ask" ++ word " " := by decide +kernel
  have w2 : word " ;" = word " " ++ word ";" := by decide +kernel
  have w3 : word " times " = word " " ++ word "times " := by decide +kernel
  have hp3' : H p3 = none := (s0.trans (s1.trans s2)).free hp3
  by_cases c : @Eq Nat a.g 0
  · have ec : cm = [] := by
      rw [← hcm, c]
      have : (columnsOf t.cols.length 0) = [] := by
        rw [columnsOf_bit]
        simp
      rw [this]
      rfl
    refine ifF (decide_eq_false (by omega)) (times _ p3 _ s3 hp3' f3 (by omega) ?_ htl)
    unfold showAsk Vamvsa.line
    rw [if_pos c, ec, w1]
    by_cases c1 : a.k = 1
    · rw [if_pos c1, if_pos c1, w2]
      simp [List.append_assoc]
    · rw [if_neg c1, if_neg c1, w2, w3]
      simp [List.append_assoc]
  · refine ifT (decide_eq_true (by omega)) ⟨_, rfl, _, rfl, spl_len t_blank (by decide +kernel), fun p4 hp4 => ?_⟩
    rw [t_blank]
    refine cat_b (same_new hp4 _ _ f3) upd_same ?_ fun p5 hp5 => ?_
    · have : (word " ").length = 1 := by decide +kernel
      omega
    · have s4 := s3.trans (same_new (o := .lst ((byV (word " ")).map V.int)) hp4)
      refine times _ p5 _ (s4.trans (same_new hp5)) (s4.free hp5) upd_same ?_ ?_ htl
      · rw [List.length_append]
        have : (word " ").length = 1 := by decide +kernel
        omega
      · unfold showAsk Vamvsa.line
        rw [if_neg c, hcm, w1]
        by_cases c1 : a.k = 1
        · rw [if_pos c1, if_pos c1, w2]
          simp [List.append_assoc]
        · rw [if_neg c1, if_neg c1, w2, w3]
          simp [List.append_assoc]
end
end Bw
set_option Elab.async false
set_option linter.all false
set_option maxRecDepth 100000
set_option maxHeartbeats 4000000
namespace Bw
open PySem PySem.Spec PyProof.Rows L2
section
variable {P : Program} {w : World} {K : PySem.W.Frag} {mg : Str → Option Value} {base : Heap}
open VamvsBase (Bytes word joined showNat showInt)
open Vamvsa (commas columnsOf showRow showAsk)
/-- a list of lists of bytes as it grows -/
def AccB (H H1 : Hp) (D : Addr) (bs : List Bytes) : Prop := Same H H1 ∧ ∃ as : List Addr, H1 D = some (.lst (as.map V.ref)) ∧ Al2 (BysA (cut [D] H1)) as bs
theorem AccB.up {H H1 H2 : Hp} {D : Addr} {bs : List Bytes} (a : AccB H H1 D bs) (s : Same H1 H2) : AccB H H2 D bs := by
  obtain ⟨s1, as, h1, h2⟩ := a
  exact ⟨s1.trans s, as, s _ _ h1, h2.imp (BysA.same (cut_but (.of_same s) (fun _ z => z)))⟩
theorem AccB.step {H H1 : Hp} {D q : Addr} {bs : List Bytes} (b : Bytes) (a : AccB H H1 D bs) (hD : H D = none) (hq : H1 q = none) (hl : bs.length < 100000) :
    ∃ acc, (upd H1 q (.lst ((byV b).map V.int))) D = some (.lst acc) ∧ acc.length < sizeLine ∧ AccB H (upd (upd H1 q (.lst ((byV b).map V.int))) D (.lst (acc ++ [V.ref q]))) D (bs ++ [b]) := by
  obtain ⟨s1, as, h1, h2⟩ := a
  have hDq : D ≠ q := fun z => by rw [← z, h1] at hq; cases hq
  refine ⟨as.map V.ref, (upd_ne hDq).trans h1, ?_, ?_, as ++ [q], ?_, ?_⟩
  · rw [List.length_map, h2.len]
    exact Nat.lt_of_lt_of_le hl (small_len (Nat.le_refl _))
  · exact fun c o z => by rw [upd_ne (ne_of_none z hD), upd_ne (ne_of_none (s1 _ _ z) hq)]; exact s1 _ _ z
  · rw [upd_same, List.map_append]; rfl
  · rw [cut_upd (List.mem_singleton.mpr rfl)]
    refine Al2.snoc ?_ (h2.imp (BysA.same fun c o z => ?_))
    · show cut [D] _ q = _
      rw [cut_out (by simpa using Ne.symm hDq), upd_same]
    · obtain ⟨z3, z4⟩ := cut_some z
      rw [cut_out z3, upd_ne (ne_of_none z4 hq)]
      exact z4
theorem AccB.zero {H : Hp} {D : Addr} (hD : H D = none) : AccB H (upd H D (.lst [])) D [] := ⟨same_new hD, [], upd_same, trivial⟩
theorem AccB.done {H H1 : Hp} {D : Addr} {bs : List Bytes} (a : AccB H H1 D bs) : LstA (BysA H1) H1 D bs := by
  obtain ⟨s1, as, h1, h2⟩ := a
  exact ⟨as, h1, h2.imp (BysA.same (cut_same _ _))⟩
theorem t_columns : cpV (Str.ofString "columns ") = byV (word "columns ") := by decide +kernel
theorem t_row : cpV (Str.ofString "row ") = byV (word "row ") := by decide +kernel
theorem t_bend : cpV (Str.ofString " ;\n") = byV (word " ;" ++ [10]) := by decide +kernel
theorem t_told {m : Int} (h1 : -1000 ≤ m) (h2 : m ≤ 1000) : cpV (Str.ofString " : " ++ Str.ofString (toString m) ++ Str.ofString " ;\n") = byV (word " : " ++ showInt m ++ (word " ;" ++ [10])) := by
  rw [cpV_append, cpV_append, byV_append, byV_append, int_text h1 h2]
  have e1 : cpV (Str.ofString " : ") = byV (word " : ") := by decide +kernel
  rw [e1, t_bend]
theorem showAsk_len {t : Vamvsa.Table} (W : WF t) {a : Vamvsa.Ask} (h : a ∈ t.asks) : (showAsk t.cols a).length ≤ 900 := by
  obtain ⟨n1, n2⟩ := names_of W.nm W.wc a.g
  have hc := commas_len n1 n2
  have hk := nat_len a.k (by have := (W.ask a h).2.2; omega)
  unfold showAsk Vamvsa.line
  have e1 : (word "ask").length = 3 := by decide +kernel
  have e2 : (word " ").length = 1 := by decide +kernel
  have e3 : (word " times ").length = 7 := by decide +kernel
  have e4 : (word " ;").length = 2 := by decide +kernel
  rw [List.length_append, List.length_append, List.length_append, List.length_append, e1, e4]
  have h5 : (if @Eq Nat a.g 0 then [] else word " " ++ commas ((columnsOf t.cols.length a.g).map fun i => t.cols.getD i [])).length ≤ 833 := by
    split
    · exact Nat.zero_le _
    · rw [List.length_append]; omega
  have h6 : (if a.k = 1 then [] else word " times " ++ showNat a.k).length ≤ 11 := by
    split
    · exact Nat.zero_le _
    · rw [List.length_append]; omega
  show 3 + (_ + (_ + 2)) + 1 ≤ 900
  omega
theorem row_len {t : Vamvsa.Table} (W : WF t) {r : Vamvsa.Row} (h : r ∈ t.rows) : (∀ b ∈ r.vs.map showNat, b.length ≤ 50) ∧ (r.vs.map showNat).length ≤ 16 ∧ (showInt r.m).length ≤ 5 := by
  obtain ⟨h1, h2, h3, h4⟩ := W.row r h
  refine ⟨fun b hb => ?_, ?_, int_len h3 h4⟩
  · obtain ⟨v, hv, rfl⟩ := List.mem_map.mp hb
    have := nat_len v (by have := h2 v hv; omega)
    omega
  · rw [List.length_map, h1]
    have := W.wc
    omega
def sp_shown_table (K : PySem.W.Frag) : Sp := fun vs H Q _ => ∃ (ta : Addr) (t : Vamvsa.Table), vs = [.ref ta] ∧ TbAt K H ta t ∧ WF t ∧ NewL H Q (Vamvsa.shown t)
theorem sc_shown_table : FnScope ["table", "found", "row", "question", "name", "cell"] ["table"] (defScope (top 84)) := ⟨rfl, rfl, rfl, by decide +kernel, rfl, by decide +kernel, by decide +kernel⟩
theorem ok_shown_table (T : Txt K mg) : Def P w K mg base CX0 4 "shown_table" ["table"] (sp_shown_table K) := by
  obtain ⟨fd, F⟩ := fd_shown_table T
  refine Def.mk' F sc_shown_table (gl_shown_table T) (fun vs H Q E h => by obtain ⟨_, _, rfl, _⟩ := h; rfl) (fun _ _ _ _ _ _ us hl => match us, hl with | [_], _ => rfl) fun cdv A outer s H vs Q E hr h => ?_
  refine ⟨_, PSs.nox (pss_cons (ps_set (i := 1) sc_shown_table.nd rfl (Or.inl rfl) (pe_op op_cat (pe_op op_cat (Def.call (ok_spelled T) hr (by decide) (pa_cons pe_str pa_nil)) (Def.call (ok_with_commas T) hr (by decide) (pa_cons (pe_lc (own := [("name", 4)]) (g := gName 4) rfl sc_shown_table.nd (pi_list (pe_fld (pv 0) rfl)) (blkOk_by (own := [("name", 4)]) (N := ["table", "found", "row", "question", "name", "cell"]) (sc := defScope (top 84)) (by decide +kernel)) (fun _ _ _ _ _ => pg_name (i := 4) sc_shown_table.nd rfl (Or.inl rfl)) (fun _ _ _ _ _ => pts_nil) (fun _ _ _ _ _ => pe_callTy (call_list_K (K := K) rfl) (by rfl) (fr_list T) PyProof.Rows.boot_list (pa_cons (pv 4) pa_nil))) pa_nil))) (Def.call (ok_spelled T) hr (by decide) (pa_cons pe_str pa_nil))))
    (pss_cons (ps_for PassesOwn.never rfl (pi_list (pe_fld (pv 0) rfl)) (pg_name (i := 2) sc_shown_table.nd rfl (Or.inl rfl))
      (pss_cons (ps_set (i := 1) sc_shown_table.nd rfl (Or.inl rfl) (pe_op op_cat (pe_op op_cat (pv 1) (Def.call (ok_spelled T) hr (by decide) (pa_cons pe_str pa_nil))) (Def.call (ok_with_commas T) hr (by decide) (pa_cons (pe_lc (own := [("cell", 5)]) (g := gName 5) rfl sc_shown_table.nd (pi_list (pe_fld (pv 2) rfl)) (blkOk_by (own := [("cell", 5)]) (N := ["table", "found", "row", "question", "name", "cell"]) (sc := defScope (top 84)) (by decide +kernel)) (fun _ _ _ _ _ => pg_name (i := 5) sc_shown_table.nd rfl (Or.inl rfl)) (fun _ _ _ _ _ => pts_nil) (fun _ _ _ _ _ => Def.call (ok_spelled T) hr (by decide) (pa_cons (pe_callTy call_str_int (by rfl) (fr_str T) PyProof.Rows.boot_str (pa_cons (pv 5) pa_nil)) pa_nil))) pa_nil))))
      (pss_one (ps_set (i := 1) sc_shown_table.nd rfl (Or.inl rfl) (pe_op op_cat (pv 1) (Def.call (ok_spelled T) hr (by decide) (pa_cons (pe_op op_add_str (pe_op op_add_str pe_str (pe_callTy call_str_int (by rfl) (fr_str T) PyProof.Rows.boot_str (pa_cons (pe_fld (pv 2) rfl) pa_nil))) pe_str) pa_nil)))))))
    (pss_cons (ps_for PassesOwn.never rfl (pi_list (pe_fld (pv 0) rfl)) (pg_name (i := 3) sc_shown_table.nd rfl (Or.inl rfl))
      (pss_one (ps_set (i := 1) sc_shown_table.nd rfl (Or.inl rfl) (pe_op op_cat (pv 1) (Def.call (ok_shown_question T) hr (by decide) (pa_cons (pv 0) (pa_cons (pv 3) pa_nil)))))))
    (pss_one (ps_ret (pv 1)))))), ?_⟩
  obtain ⟨ta, t, rfl, hT, W, h⟩ := h
  obtain ⟨cl, rl, ql, ⟨tdx, hta⟩, ⟨ca, hcl, hca⟩, ⟨ra, hrl, hra⟩, ⟨qa, hql, hqa⟩⟩ := id hT
  have e8 : (word "columns ").length = 8 := by decide +kernel
  have e3 : (word " ;" ++ [10]).length = 3 := by decide +kernel
  have e4 : (word "row ").length = 4 := by decide +kernel
  have e5 : (word " : ").length = 3 := by decide +kernel
  have hcc := commas_len (bs := t.cols) (fun b hb => by have := W.nm b hb; omega) (by have := W.wc; omega)
  refine ⟨_, rfl, spl_len t_columns (by decide +kernel), fun p0 hp0 => ?_⟩
  rw [t_columns]
  have s0 : Same H (upd H p0 (.lst ((byV (word "columns ")).map V.int))) := same_new hp0
  have f0 : (upd H p0 (.lst ((byV (word "columns ")).map V.int))) p0 = some (.lst ((byV (word "columns ")).map V.int)) := upd_same
  generalize (upd H p0 (.lst ((byV (word "columns ")).map V.int))) = H0 at s0 f0 ⊢
  refine ⟨_, rfl, _, _, _, _, _, rfl, s0 _ _ hta, cl_Table T, na_Table_columns T, tb_columns, cl, rfl, ⟨_, SqL.of (s0 _ _ hcl)⟩, fun D hD => ?_⟩
  refine lc_it (walk_list (xs := ca.map V.ref)) (fun i H' => AccB H0 H' D (t.cols.take i)) (AccB.zero hD) (fun i H' _ p => SqL.of (p.1 _ _ (s0 _ _ hcl))) ?_ ?_
  · rintro i x H1 H2 hi a1 ⟨rfl, hx⟩
    rw [List.length_map, hca.len] at hi
    have hci : t.cols[i]? = some t.cols[i] := List.getElem?_eq_getElem hi
    obtain ⟨p, hp, hpc⟩ := hca.get hci
    have hx : x = V.ref p := by rw [List.getElem?_map, hp] at hx; exact (Option.some.inj hx).symm
    subst hx
    refine ⟨rfl, _, rfl, _, _, rfl, .inr (SqT.of (a1.1 _ _ (s0 _ _ hpc))), fun q hq => ?_⟩
    rw [take_snoc hci]
    exact a1.step _ hD hq (by rw [List.length_take]; have := W.wc; omega)
  rw [List.length_map, hca.len, List.take_length]
  intro H1 a1
  refine ⟨D, t.cols, rfl, a1.done, fun b hb => by have := W.nm b hb; omega, by have := W.wc; omega, fun H2 p2 s2 hp2 f2 => cat_b (s2 _ _ (a1.1 _ _ f0)) f2 (by rw [e8]; omega) fun p3 hp3 => ⟨_, rfl, spl_len t_bend (by decide +kernel), fun p4 hp4 => ?_⟩⟩
  rw [t_bend]
  refine cat_b (same_new hp4 _ _ upd_same) upd_same (by rw [List.length_append, e8, e3]; omega) fun p5 hp5 => ?_
  have s5 : Same H (upd (upd (upd H2 p3 (.lst ((byV (word "columns " ++ commas t.cols)).map V.int))) p4 (.lst ((byV (word " ;" ++ [10])).map V.int))) p5 (.lst ((byV (word "columns " ++ commas t.cols ++ (word " ;" ++ [10]))).map V.int))) :=
    (s0.trans (a1.1.trans s2)).trans ((same_new hp3).trans ((same_new hp4).trans (same_new hp5)))
  have f5 : (upd (upd (upd H2 p3 (.lst ((byV (word "columns " ++ commas t.cols)).map V.int))) p4 (.lst ((byV (word " ;" ++ [10])).map V.int))) p5 (.lst ((byV (word "columns " ++ commas t.cols ++ (word " ;" ++ [10]))).map V.int))) p5 = some (.lst ((byV (word "columns " ++ commas t.cols ++ (word " ;" ++ [10]))).map V.int)) := upd_same
  have n5 : H p5 = none := ((s0.trans (a1.1.trans s2)).trans ((same_new hp3).trans (same_new hp4))).free hp5
  have l5 : (word "columns " ++ commas t.cols ++ (word " ;" ++ [10])).length ≤ 900 := by rw [List.length_append, List.length_append, e8, e3]; omega
  generalize (upd (upd (upd H2 p3 (.lst ((byV (word "columns " ++ commas t.cols)).map V.int))) p4 (.lst ((byV (word " ;" ++ [10])).map V.int))) p5 (.lst ((byV (word "columns " ++ commas t.cols ++ (word " ;" ++ [10]))).map V.int))) = H5 at s5 f5 ⊢
  generalize hc0 : word "columns " ++ commas t.cols ++ (word " ;" ++ [10]) = c0 at f5 l5
  refine ⟨_, rfl, _, _, _, _, _, rfl, s5 _ _ hta, cl_Table T, na_Table_rows T, tb_rows, rl, rfl, ⟨_, SqL.of (s5 _ _ hrl)⟩, ?_⟩
  refine for_list (xs := ra.map V.ref) (fun i σ H' => ∃ p b v, σ = [some (.ref ta), some (.ref p), v, none, none, none] ∧ Same H H' ∧ H p = none ∧ H' p = some (.lst ((byV b).map V.int)) ∧ b.length ≤ 900 + i * 900 ∧ b = c0 ++ (t.rows.take i).flatMap showRow)
    ⟨p5, c0, none, rfl, s5, n5, f5, by omega, by simp⟩ (fun i σ H' _ ⟨_, _, _, _, s, _⟩ => SqL.of (s _ _ hrl)) ?_ ?_
  · rintro i x σ H6 hx ⟨p, b, v, rfl, s6, hp, f6, l6, hb⟩
    have hi : i < t.rows.length := by
      have := (List.getElem?_eq_some_iff.mp hx).1
      rw [List.length_map, hra.len] at this
      exact this
    have hri : t.rows[i]? = some t.rows[i] := List.getElem?_eq_getElem hi
    have hrm : t.rows[i] ∈ t.rows := List.getElem_mem hi
    have hi16 : i < 16 := by have := W.wr; omega
    obtain ⟨rp, hrp, rdx, ce, hrow, hce⟩ := hra.get hri
    have hx : x = V.ref rp := by rw [List.getElem?_map, hrp] at hx; exact (Option.some.inj hx).symm
    subst hx
    generalize t.rows[i] = row at hri hrm hrow hce
    obtain ⟨_, hv9, hm1, hm2⟩ := W.row row hrm
    obtain ⟨g1, g2, g3⟩ := row_len W hrm
    have gc := commas_len g1 g2
    refine ⟨_, rfl, _, rfl, spl_len t_row (by decide +kernel), fun p7 hp7 => ?_⟩
    rw [t_row]
    refine cat_b (same_new hp7 _ _ f6) upd_same (by omega) fun p8 hp8 => ?_
    have s8 : Same H (upd (upd H6 p7 (.lst ((byV (word "row ")).map V.int))) p8 (.lst ((byV (b ++ word "row ")).map V.int))) := s6.trans ((same_new hp7).trans (same_new hp8))
    have f8 : (upd (upd H6 p7 (.lst ((byV (word "row ")).map V.int))) p8 (.lst ((byV (b ++ word "row ")).map V.int))) p8 = some (.lst ((byV (b ++ word "row ")).map V.int)) := upd_same
    generalize (upd (upd H6 p7 (.lst ((byV (word "row ")).map V.int))) p8 (.lst ((byV (b ++ word "row ")).map V.int))) = H8 at s8 f8 ⊢
    refine ⟨_, rfl, _, _, _, _, _, rfl, s8 _ _ hrow, cl_Row T, na_Row_cells T, row_cells, ce, rfl, ⟨_, SqL.of (s8 _ _ hce)⟩, fun D hD => ?_⟩
    refine lc_it (walk_list (xs := natV row.vs)) (fun j H' => AccB H8 H' D ((row.vs.map showNat).take j)) (AccB.zero hD) (fun j H' _ p => SqL.of (p.1 _ _ (s8 _ _ hce))) ?_ ?_
    · rintro j x H1 H2 hj a1 ⟨rfl, hx⟩
      have hj : j < row.vs.length := by unfold natV at hj; rw [List.length_map] at hj; exact hj
      have hcj : row.vs[j]? = some row.vs[j] := List.getElem?_eq_getElem hj
      have hx : x = V.int (row.vs[j] : Nat) := by
        unfold natV at hx
        rw [List.getElem?_map, hcj] at hx
        exact (Option.some.inj hx).symm
      subst hx
      have hv := hv9 _ (List.getElem_mem hj)
      have hsj : (row.vs.map showNat)[j]? = some (showNat row.vs[j]) := by rw [List.getElem?_map, hcj]; rfl
      generalize row.vs[j] = v at hv hsj
      have ht := nat_text v (by omega)
      refine ⟨rfl, _, rfl, _, rfl, log_small (by omega), ?_⟩
      refine ⟨_, rfl, by have := str_nat_len v (by omega); exact small_len (by omega), fun q hq => ?_⟩
      rw [ht, take_snoc hsj]
      exact a1.step _ hD hq (by rw [List.length_take]; omega)
    have hnv : (natV row.vs).length = (row.vs.map showNat).length := by unfold natV; rw [List.length_map, List.length_map]
    rw [hnv, List.take_length]
    intro H1 a1
    refine ⟨D, row.vs.map showNat, rfl, a1.done, g1, g2, fun H2 q2 s2 hq2 h2 => cat_b (s2 _ _ (a1.1 _ _ f8)) h2 (by rw [List.length_append]; show b.length + _ + (commas _).length ≤ _; omega) fun q3 hq3 => ?_⟩
    have s9 : Same H (upd H2 q3 (.lst ((byV (b ++ word "row " ++ commas (row.vs.map showNat))).map V.int))) := (s8.trans (a1.1.trans s2)).trans (same_new hq3)
    have f9 : (upd H2 q3 (.lst ((byV (b ++ word "row " ++ commas (row.vs.map showNat))).map V.int))) q3 = some (.lst ((byV (b ++ word "row " ++ commas (row.vs.map showNat))).map V.int)) := upd_same
    generalize (upd H2 q3 (.lst ((byV (b ++ word "row " ++ commas (row.vs.map showNat))).map V.int))) = H9 at s9 f9 ⊢
    have hz : (Str.ofString (toString row.m)).length ≤ 5 := by rw [cp_byte (int_text hm1 hm2)]; exact g3
    have z3 : (Str.ofString " : ").length = 3 := by decide +kernel
    have z4 : (Str.ofString " ;\n").length = 3 := by decide +kernel
    have htl : (word " : " ++ showInt row.m ++ (word " ;" ++ [10])).length ≤ 11 := by rw [List.length_append, List.length_append, e5, e3]; omega
    refine ⟨_, rfl, _, rfl, _, _, _, _, _, rfl, s9 _ _ hrow, cl_Row T, na_Row_told T, row_told, _, rfl, log_small (by omega), _, _, rfl, rfl, small_len (by omega), _, _, rfl, rfl, ?_, _, rfl, spl_len (t_told hm1 hm2) (by omega), fun q4 hq4 => ?_⟩
    · rw [str_append_len]
      exact small_len (by omega)
    rw [t_told hm1 hm2]
    have l9 : (b ++ word "row " ++ commas (row.vs.map showNat)).length ≤ b.length + 836 := by rw [List.length_append, List.length_append]; omega
    refine cat_b (same_new hq4 _ _ f9) upd_same (by omega) fun q5 hq5 => ?_
    refine ⟨q5, _, _, rfl, (s9.trans (same_new hq4)).trans (same_new hq5), (s9.trans (same_new hq4)).free hq5, upd_same, ?_, ?_⟩
    · rw [List.length_append]; omega
    · rw [take_snoc hri, List.flatMap_append, hb]
      show _ = c0 ++ (_ ++ (showRow row ++ []))
      unfold showRow Vamvsa.line
      have w3 : word " : " ++ (showInt row.m ++ word " ;") = word " : " ++ showInt row.m ++ word " ;" := by rw [List.append_assoc]
      rw [w3]
      simp [List.append_assoc]
  · rintro σ H6 ⟨p, b, v, rfl, s6, hp, f6, l6, hb⟩
    rw [List.length_map, hra.len] at l6 hb
    rw [List.take_length] at hb
    have hr16 := W.wr
    have l6 : b.length ≤ 16000 := by omega
    refine ⟨_, rfl, _, _, _, _, _, rfl, s6 _ _ hta, cl_Table T, na_Table_questions T, tb_questions, ql, rfl, ⟨_, SqL.of (s6 _ _ hql)⟩, ?_⟩
    refine for_list (xs := qa.map V.ref) (fun i σ H' => ∃ p c u v, σ = [some (.ref ta), some (.ref p), u, v, none, none] ∧ Same H H' ∧ H p = none ∧ H' p = some (.lst ((byV c).map V.int)) ∧ c.length ≤ 16000 + i * 900 ∧ c = b ++ (t.asks.take i).flatMap (showAsk t.cols))
      ⟨p, b, _, none, rfl, s6, hp, f6, by omega, by simp⟩ (fun i σ H' _ ⟨_, _, _, _, _, s, _⟩ => SqL.of (s _ _ hql)) ?_ ?_
    · rintro i x σ H7 hx ⟨p7, c, u, v', rfl, s7, hp7, f7, l7, hc⟩
      have hi : i < t.asks.length := by
        have := (List.getElem?_eq_some_iff.mp hx).1
        rw [List.length_map, hqa.len] at this
        exact this
      have hri : t.asks[i]? = some t.asks[i] := List.getElem?_eq_getElem hi
      have hrm : t.asks[i] ∈ t.asks := List.getElem_mem hi
      have hi8 : i < 8 := by have := W.wa; omega
      obtain ⟨qp, hqp, hq⟩ := hqa.get hri
      have hx : x = V.ref qp := by rw [List.getElem?_map, hqp] at hx; exact (Option.some.inj hx).symm
      subst hx
      generalize t.asks[i] = ak at hri hrm hq
      have hal := showAsk_len W hrm
      obtain ⟨_, hk1, hk2⟩ := W.ask ak hrm
      refine ⟨_, rfl, _, rfl, _, rfl, ta, qp, t, ak, rfl, hT.same s7, AskA.same s7 _ _ hq, W.nm, W.wc, hk1, hk2, fun H8 p8 s8 hp8 f8 => cat_b (s8 _ _ f7) f8 (by omega) fun p9 hp9 => ?_⟩
      refine ⟨p9, _, _, _, rfl, (s7.trans s8).trans (same_new hp9), (s7.trans s8).free hp9, upd_same, ?_, ?_⟩
      · rw [List.length_append]; omega
      · rw [take_snoc hri, List.flatMap_append, hc]
        show _ = b ++ (_ ++ (showAsk t.cols ak ++ []))
        simp [List.append_assoc]
    · rintro σ H7 ⟨p7, c, u, v', rfl, s7, hp7, f7, l7, hc⟩
      rw [List.length_map, hqa.len, List.take_length] at hc
      refine ⟨_, rfl, h H7 p7 s7 hp7 ?_⟩
      rw [f7, hc, hb, ← hc0]
      unfold Vamvsa.shown Vamvsa.line
      simp [List.append_assoc]
end
end Bw
set_option Elab.async false
set_option linter.all false
set_option maxRecDepth 100000
set_option maxHeartbeats 4000000
namespace Bw
open PySem PySem.Spec PyProof.Rows L2
section
variable {P : Program} {w : World} {K : PySem.W.Frag} {mg : Str → Option Value} {base : Heap}
open Vamvsa (columnsOf)
/-! ### how many lines an answer has -/
def TupA (G : Hp) (p : Addr) (k : List Nat) : Prop := G p = some (.tup (natV k))
theorem TupA.same {G H : Hp} (s : Same G H) (a : Addr) (c : List Nat) (h : TupA G a c) : TupA H a c := s _ _ h
theorem keyOf_sel {w g : Nat} {vs : List Nat} : Vamvsa.keyOf w g vs = ((List.range w).filter fun i => g.testBit i).map fun i => vs.getD i 0 := by
  unfold Vamvsa.keyOf
  rw [columnsOf_bit]
theorem Al2.pairs {α : Type} {R : Addr → α → Prop} : ∀ {as : List Addr} {l : List α}, Al2 R as l → (as.zip l).map (fun p => p.1) = as ∧ (as.zip l).map (fun p => p.2) = l ∧ ∀ p ∈ as.zip l, R p.1 p.2
  | [], [], _ => ⟨rfl, rfl, fun p hp => by cases hp⟩
  | a :: r, x :: l, ⟨h1, h2⟩ => by
    obtain ⟨i1, i2, i3⟩ := Al2.pairs h2
    refine ⟨?_, ?_, fun p hp => ?_⟩
    · rw [List.zip_cons_cons, List.map_cons, i1]
    · rw [List.zip_cons_cons, List.map_cons, i2]
    · rw [List.zip_cons_cons] at hp
      rcases List.mem_cons.mp hp with rfl | q
      · exact h1
      · exact i3 p q
def sp_size_of (K : PySem.W.Frag) : Sp := fun vs H Q _ => ∃ (ta : Addr) (t : Vamvsa.Table) (g : Nat), vs = [.ref ta, .int (g : Nat)] ∧ TbAt K H ta t ∧ WF t ∧ ∀ H', Same H H' → Q (.int (Bk.sz t g : Nat)) H'
theorem sc_size_of : FnScope ["table", "grouping", "groups", "row", "at", "cell"] ["table", "grouping"] (defScope (top 4)) := ⟨rfl, rfl, rfl, by decide +kernel, rfl, by decide +kernel, by decide +kernel⟩
theorem ok_size_of (T : Txt K mg) : Def P w K mg base CX0 1 "size_of" ["table", "grouping"] (sp_size_of K) := by
  obtain ⟨fd, F⟩ := fd_size_of T
  refine Def.mk' F sc_size_of (gl_size_of T) (fun vs H Q E h => by obtain ⟨_, _, _, rfl, _⟩ := h; rfl) (fun _ _ _ _ _ _ us hl => match us, hl with | [_, _], _ => rfl) fun cdv A outer s H vs Q E hr h => ?_
  refine ⟨_, PSs.nox (pss_cons (ps_set (i := 2) sc_size_of.nd rfl (Or.inl rfl) (pe_lst pa_nil))
    (pss_cons (ps_for PassesOwn.never rfl (pi_list (pe_fld (pv 0) rfl)) (pg_name (i := 3) sc_size_of.nd rfl (Or.inl rfl))
      (pss_one (ps_expr (pe_bm PySem.F.plainAttrs_list PySem.F.slot_list_append PySem.F.type_list_append mt_append (pv 2) (pa_cons (pe_callTy call_tuple_of (by rfl) (fr_tuple T) PyProof.Rows.boot_tuple (pa_cons (pe_lc (own := [("at", 4), ("cell", 5)]) (g := gTup K 2 (gCons (gName 4) (gCons (gName 5) gNil))) rfl sc_size_of.nd (pi_enum rfl (fr_enumerate T) (pa_cons (pe_fld (pv 3) rfl) pa_nil)) (blkOk_by (own := [("at", 4), ("cell", 5)]) (N := ["table", "grouping", "groups", "row", "at", "cell"]) (sc := defScope (top 4)) (by decide +kernel)) (fun _ _ _ _ _ => pg_tup rfl (pgs_cons (pg_name (i := 4) sc_size_of.nd rfl (Or.inl rfl)) (pgs_cons (pg_name (i := 5) sc_size_of.nd rfl (Or.inl rfl)) pgs_nil))) (fun _ _ _ _ _ => pts_one (pt_cmpR op_eq (pe_op op_and (pe_op op_shr (pv 1) (pv 4)) pe_int) pe_int (nomark _))) (fun _ _ _ _ _ => pv 5)) pa_nil)) pa_nil)))))
    (pss_one (ps_ret (pe_callB call_len_setT (by rfl) (fr_len T) PySem.boot_len (pa_cons (pe_callTy (cr_setOfT rfl hr.units) (by rfl) (fr_set T) PyProof.Rows.boot_set (pa_cons (pv 2) pa_nil)) pa_nil)))))), ?_⟩
  obtain ⟨ta, t, g, rfl, ⟨cl, rl, ql, ⟨tdx, hta⟩, _, ⟨ra, hrl, hra⟩, _⟩, W, h⟩ := h
  have hlen := hra.len
  refine ⟨by show 0 ≤ sizeLine; decide, fun D hD => ?_⟩
  have sD : Same H (upd H D (.lst [])) := same_new hD
  refine ⟨_, rfl, _, _, _, _, _, rfl, sD _ _ hta, cl_Table T, na_Table_rows T, tb_rows, rl, rfl, ⟨_, SqL.of (sD _ _ hrl)⟩, ?_⟩
  refine for_list (xs := ra.map V.ref) (fun i σ H' => ∃ as v, σ = [some (.ref ta), some (.int (g : Nat)), some (.ref D), v, none, none] ∧ Same H H' ∧ H' D = some (.lst (as.map V.ref)) ∧ Al2 (TupA H') as ((t.rows.take i).map fun r => Vamvsa.keyOf (Vamvsa.width t) g r.vs))
    ⟨[], none, rfl, sD, upd_same, trivial⟩ (fun i σ H' _ ⟨_, _, _, s, _⟩ => SqL.of (s _ _ hrl)) ?_ ?_
  · rintro i x σ H1 hx ⟨as, v, rfl, s1, hD1, hal⟩
    have hi : i < t.rows.length := by
      have := (List.getElem?_eq_some_iff.mp hx).1
      rw [List.length_map, hra.len] at this
      exact this
    have hri : t.rows[i]? = some t.rows[i] := List.getElem?_eq_getElem hi
    have hrm : t.rows[i] ∈ t.rows := List.getElem_mem hi
    have hi16 : i < 16 := by have := W.wr; omega
    obtain ⟨rp, hrp, rdx, ce, hrow, hce⟩ := hra.get hri
    have hx : x = V.ref rp := by rw [List.getElem?_map, hrp] at hx; exact (Option.some.inj hx).symm
    subst hx
    generalize t.rows[i] = row at hri hrm hrow hce
    obtain ⟨hvl, _, _, _⟩ := W.row row hrm
    refine ⟨_, rfl, .inl ⟨rfl, _, SqL.of hD1⟩, ?_⟩
    refine ⟨_, rfl, _, _, _, _, _, rfl, s1 _ _ hrow, cl_Row T, na_Row_cells T, row_cells, ce, natV row.vs, rfl, SqL.of (s1 _ _ hce), fun C hC => ?_⟩
    have hDC : D ≠ C := fun z => by rw [← z, hD1] at hC; cases hC
    have key : ∀ i, i ≤ row.vs.length → i = i := fun _ _ => rfl
    refine lc_it (walk_enum (xs := natV row.vs)) (fun j H' => Same H1 H' ∧ H' C = some (.lst (natV (((List.range j).filter fun i => g.testBit i).map fun i => row.vs.getD i 0))))
      ⟨same_new hC, upd_same⟩ (fun j H' _ p => SqL.of (p.1 _ _ (s1 _ _ hce))) ?_ ?_
    · rintro j x H2 H3 hj ⟨s2, hC2⟩ ⟨Tp, x0, y, rfl, hT, rfl, hx, hy⟩
      injection hx with hx
      subst hx
      have hj : j < row.vs.length := by unfold natV at hj; rw [List.length_map] at hj; exact hj
      have hcj : row.vs[j]? = some row.vs[j] := List.getElem?_eq_getElem hj
      have hy : (natV row.vs)[j]? = some y := hy
      have hy : y = V.int (row.vs[j] : Nat) := by
        unfold natV at hy
        rw [List.getElem?_map, hcj] at hy
        exact (Option.some.inj hy).symm
      subst hy
      have hgd : row.vs.getD j 0 = row.vs[j] := by rw [List.getD_eq_getElem?_getD, hcj]; rfl
      generalize row.vs[j] = c at hgd
      have hCT : C ≠ Tp := fun z => by rw [← z, hC2] at hT; cases hT
      have s3 : Same H1 (upd H2 Tp (.tup [V.int (j : Nat), V.int (c : Nat)])) := s2.trans (same_new hT)
      refine ⟨Tp, _, rfl, SqT.of upd_same, rfl, _, _, rfl, _, _, rfl, rfl, rfl, ?_⟩
      refine ⟨_, rfl, _, rfl, _, _, rfl, rfl, Int.natCast_nonneg _, _, _, rfl, rfl, rfl, _, rfl, ifB (bit_is g j) (fun b => ?_) fun b => ?_⟩
      · refine ⟨_, rfl, _, (upd_ne hCT).trans hC2, ?_, ?_, ?_⟩
        · unfold natV
          rw [List.length_map, List.length_map]
          have := List.length_filter_le (fun i => g.testBit i) (List.range j)
          rw [List.length_range] at this
          have := W.wc
          exact Nat.lt_of_lt_of_le (by omega : _ < 100000) (small_len (Nat.le_refl _))
        · exact fun e o z => by rw [upd_ne (ne_of_none z hC)]; exact s3 _ _ z
        · rw [upd_same, sel_succ, if_pos b, hgd]
          unfold natV
          rw [List.map_append (l₂ := [c])]
          rfl
      · refine ⟨s3, ?_⟩
        rw [sel_succ, if_neg (by rw [b]; simp)]
        exact (upd_ne hCT).trans hC2
    rw [show (natV row.vs).length = row.vs.length from List.length_map _, hvl]
    rintro H2 ⟨s2, hC2⟩
    have hk : (((List.range t.cols.length).filter fun i => g.testBit i).map fun i => row.vs.getD i 0) = Vamvsa.keyOf (Vamvsa.width t) g row.vs := keyOf_sel.symm
    rw [hk] at hC2
    refine ⟨_, _, rfl, .inl ⟨SqL.of hC2, fun q hq => ?_⟩⟩
    have hDq : D ≠ q := fun z => by rw [← z, s2 _ _ hD1] at hq; cases hq
    refine ⟨_, _, _, rfl, rfl, (upd_ne hDq).trans (s2 _ _ hD1), ?_, as ++ [q], _, rfl, ?_, ?_, ?_⟩
    · rw [List.length_map, hal.len, List.length_map, List.length_take]
      exact Nat.lt_of_lt_of_le (by omega : _ < 100000) (small_len (Nat.le_refl _))
    · exact fun e o z => by rw [upd_ne (ne_of_none z hD), upd_ne (ne_of_none ((s1.trans s2) _ _ z) hq)]; exact (s1.trans s2) _ _ z
    · rw [upd_same, List.map_append]; rfl
    · rw [take_snoc hri, List.map_append]
      have hup : ∀ e c, TupA H1 e c → TupA (upd (upd H2 q (.tup (natV (Vamvsa.keyOf (Vamvsa.width t) g row.vs)))) D (.lst (as.map V.ref ++ [V.ref q]))) e c := fun e c z => by
        have z2 : H2 e = _ := s2 _ _ z
        have hne : e ≠ D := fun y => by rw [y, s2 _ _ hD1] at z2; cases z2
        show upd _ D _ e = _
        rw [upd_ne hne, upd_ne (ne_of_none z2 hq)]
        exact z2
      refine Al2.snoc ?_ (hal.imp hup)
      show upd _ D _ q = _
      rw [upd_ne (Ne.symm hDq), upd_same]
  · rintro σ H1 ⟨as, v, rfl, s1, hD1, hal⟩
    rw [List.length_map, hlen, List.take_length] at hal
    obtain ⟨z1, z2, z3⟩ := hal.pairs
    have hsz := hal.len
    rw [List.length_map] at hsz
    have hz : (as.zip (t.rows.map fun r => Vamvsa.keyOf (Vamvsa.width t) g r.vs)).length = t.rows.length := by rw [List.length_zip, List.length_map, hsz, Nat.min_self]
    generalize hzz : as.zip (t.rows.map fun r => Vamvsa.keyOf (Vamvsa.width t) g r.vs) = zz at z1 z2 z3 hz
    refine ⟨_, rfl, D, zz.map (fun p => (p.1, p.2.map fun (n : Nat) => (n : Int))), rfl, SqL.of ?_, ?_, ?_, fun S L hS h1 h2 => ⟨S, L, rfl, upd_same, fun hnd => ?_⟩⟩
    · rw [hD1, ← z1, List.map_map, List.map_map]
      rfl
    · intro p hp
      obtain ⟨x, hx, rfl⟩ := List.mem_map.mp hp
      refine SqT.of ((z3 x hx).trans ?_)
      show _ = some (HO.tup ((x.2.map fun (n : Nat) => (n : Int)).map V.int))
      rw [List.map_map]
      rfl
    · rw [List.length_map, hz]
      have := W.wr
      omega
    · have e := Bk.size_law (t := t) (g := g) (ks := zz.map fun p => p.2) (by rw [z2]) (L := L.map (·.2)) hnd fun x => ?_
      · rw [List.length_map] at e
        rw [e]
        exact h _ (s1.trans (same_new hS))
      · constructor
        · intro hx
          obtain ⟨p, hp, rfl⟩ := List.mem_map.mp hx
          obtain ⟨y, hy, rfl⟩ := List.mem_map.mp (h1 p hp)
          rw [List.map_map]
          exact List.mem_map.mpr ⟨y, hy, rfl⟩
        · intro hx
          rw [List.map_map] at hx
          obtain ⟨y, hy, rfl⟩ := List.mem_map.mp hx
          exact h2 (y.1, y.2.map fun (n : Nat) => (n : Int)) (List.mem_map.mpr ⟨y, hy, rfl⟩)
end
end Bw
set_option Elab.async false
set_option linter.all false
set_option maxRecDepth 100000
set_option maxHeartbeats 4000000
namespace Bw
open PySem PySem.Spec PyProof.Rows L2
section
variable {P : Program} {w : World} {K : PySem.W.Frag} {mg : Str → Option Value} {base : Heap}
open Bk (lb memb sm)
def sp_is_within : Sp := fun vs H Q _ => ∃ a b : Nat, vs = [.int (a : Nat), .int (b : Nat)] ∧ Q (.bl (decide (a &&& b = a))) H
theorem within_is (a b : Nat) : decide (V.int (Builtin.bitAnd (a : Int) (b : Int)) = V.int (a : Int)) = decide (a &&& b = a) := by
  rw [dec_int, and_nat, Bool.eq_iff_iff, beq_iff_eq, decide_eq_true_eq]
  omega
theorem sc_is_within : FnScope ["one", "other"] ["one", "other"] (defScope (top 5)) := ⟨rfl, rfl, rfl, by decide +kernel, rfl, by decide +kernel, by decide +kernel⟩
theorem ok_is_within (T : Txt K mg) : Def P w K mg base CX0 1 "is_within" ["one", "other"] (sp_is_within) := by
  obtain ⟨fd, F⟩ := fd_is_within T
  refine Def.mk' F sc_is_within (gl_is_within T) (fun vs H Q E h => by obtain ⟨_, _, rfl, _⟩ := h; rfl) (fun _ _ _ _ _ _ us hl => match us, hl with | [_, _], _ => rfl) fun cdv A outer s H vs Q E hr h => ?_
  refine ⟨_, PSs.nox (pss_one (ps_ret (pe_cmpR op_eq (pe_op op_and (pv 0) (pv 1)) (pv 0) (nomark _)))), ?_⟩
  obtain ⟨a, b, rfl, h⟩ := h
  refine ⟨_, rfl, _, rfl, _, _, rfl, rfl, _, rfl, rfl, ?_⟩
  show Q (.bl (decide (V.int (Builtin.bitAnd (a : Int) (b : Int)) = V.int (a : Int)))) H
  rw [within_is]
  exact h
def sp_least_bit : Sp := fun vs H Q _ => ∃ n : Nat, vs = [.int (n : Nat)] ∧ 0 < n ∧ Q (.int (lb n : Nat)) H
theorem sc_least_bit : FnScope ["number", "at"] ["number"] (defScope (top 6)) := ⟨rfl, rfl, rfl, by decide +kernel, rfl, by decide +kernel, by decide +kernel⟩
theorem ok_least_bit (T : Txt K mg) : Def P w K mg base CX0 1 "least_bit" ["number"] (sp_least_bit) := by
  obtain ⟨fd, F⟩ := fd_least_bit T
  refine Def.mk' F sc_least_bit (gl_least_bit T) (fun vs H Q E h => by obtain ⟨_, rfl, _⟩ := h; rfl) (fun _ _ _ _ _ _ us hl => match us, hl with | [_], _ => rfl) fun cdv A outer s H vs Q E hr h => ?_
  refine ⟨_, PSs.nox (pss_cons (ps_set (i := 1) sc_least_bit.nd rfl (Or.inl rfl) pe_int)
    (pss_cons (ps_while PassesOwn.never (pt_cmpR op_eq (pe_op op_and (pe_op op_shr (pv 0) (pv 1)) pe_int) pe_int (nomark _))
      (pss_one (ps_set (i := 1) sc_least_bit.nd rfl (Or.inl rfl) (pe_op op_add (pv 1) pe_int))))
    (pss_one (ps_ret (pv 1))))), ?_⟩
  obtain ⟨n, rfl, h0, h⟩ := h
  obtain ⟨l1, l2⟩ := Bk.lb_spec n h0
  refine ⟨fun m σ H' => ∃ i, m = lb n - i ∧ i ≤ lb n ∧ σ = [some (.int (n : Nat)), some (.int (i : Nat))] ∧ H' = H, ⟨_, 0, rfl, Nat.zero_le _, rfl, rfl⟩, ?_⟩
  rintro m σ H1 ⟨i, rfl, hi, rfl, rfl⟩
  refine ⟨_, rfl, _, rfl, _, _, rfl, rfl, Int.natCast_nonneg _, _, _, rfl, rfl, rfl, _, rfl, ifB (bit_not n i) (fun b => ?_) fun b => ?_⟩
  · have hne : i ≠ lb n := fun z => by rw [z, l1] at b; cases b
    refine ⟨_, fun _ _ z => z, _, rfl, _, _, rfl, rfl, lb n - (i + 1), by omega, i + 1, rfl, by omega, rfl, rfl⟩
  · have hb : n.testBit i = true := by simpa using b
    have e : i = lb n := by
      by_cases c : i < lb n
      · rw [l2 i c] at hb; cases hb
      · omega
    subst e
    exact ⟨_, rfl, h⟩
/-- a new list of whole numbers -/
def NewN (H : Hp) (Q : VK) (l : List Nat) : Prop := ∀ (H' : Hp) (p : Addr), Same H H' → H p = none → H' p = some (.lst (natV l)) → Q (.ref p) H'
theorem natV_len (l : List Nat) : (natV l).length = l.length := List.length_map _
theorem natV_get {l : List Nat} {i n : Nat} (h : l[i]? = some n) : (natV l)[i]? = some (V.int (n : Nat)) := by
  unfold natV
  rw [List.getElem?_map, h]
  rfl
theorem natV_append (a b : List Nat) : natV (a ++ b) = natV a ++ natV b := List.map_append
theorem range_get {α : Type} {f : Nat → α} {m i : Nat} (h : i < m) : ((List.range m).map f)[i]? = some (f i) := by
  rw [List.getElem?_map, List.getElem?_range h]
  rfl
theorem range_snoc {α : Type} (f : Nat → α) (i : Nat) : (List.range (i + 1)).map f = (List.range i).map f ++ [f i] := by
  rw [List.range_succ, List.map_append]
  rfl
theorem small_lt {n : Nat} (h : n < 100000) : n < sizeLine := Nat.lt_of_lt_of_le h (small_len (Nat.le_refl _))
theorem lb_zero : lb 0 = 0 := by unfold lb; rw [dif_pos (.inl rfl)]
def sp_last_bits : Sp := fun vs H Q _ => ∃ n : Nat, vs = [.int (n : Nat)] ∧ 1 ≤ n ∧ n ≤ 65536 ∧ NewN H Q ((List.range n).map lb)
theorem sc_last_bits : FnScope ["many", "kept"] ["many"] (defScope (top 7)) := ⟨rfl, rfl, rfl, by decide +kernel, rfl, by decide +kernel, by decide +kernel⟩
theorem ok_last_bits (T : Txt K mg) : Def P w K mg base CX0 2 "last_bits" ["many"] (sp_last_bits) := by
  obtain ⟨fd, F⟩ := fd_last_bits T
  refine Def.mk' F sc_last_bits (gl_last_bits T) (fun vs H Q E h => by obtain ⟨_, rfl, _⟩ := h; rfl) (fun _ _ _ _ _ _ us hl => match us, hl with | [_], _ => rfl) fun cdv A outer s H vs Q E hr h => ?_
  refine ⟨_, PSs.nox (pss_one (ps_ret (pe_op op_cat (pe_lst (pa_cons pe_int pa_nil)) (pe_lc (own := [("kept", 1)]) (g := gName 1) rfl sc_last_bits.nd (pi_range2 rfl (fr_range T) (pa_cons pe_int (pa_cons (pv 0) pa_nil))) (blkOk_by (own := [("kept", 1)]) (N := ["many", "kept"]) (sc := defScope (top 7)) (by decide +kernel)) (fun _ _ _ _ _ => pg_name (i := 1) sc_last_bits.nd rfl (Or.inl rfl)) (fun _ _ _ _ _ => pts_nil) (fun _ _ _ _ _ => Def.call (ok_least_bit T) hr (by decide) (pa_cons (pv 1) pa_nil)))))), ?_⟩
  obtain ⟨n, rfl, h1, h2, h⟩ := h
  refine ⟨by show 1 ≤ sizeLine; decide, fun p0 hp0 => ?_⟩
  have s0 : Same H (upd H p0 (.lst [V.int 0])) := same_new hp0
  have f0 : (upd H p0 (.lst [V.int 0])) p0 = some (.lst [V.int 0]) := upd_same
  refine ⟨_, rfl, _, _, rfl, ⟨by decide, by decide, by omega, by omega⟩, fun D hD => ?_⟩
  have hm : ((n : Int) - 1).toNat = n - 1 := by omega
  rw [hm]
  have hD0 : D ≠ p0 := fun z => by rw [z, f0] at hD; cases hD
  refine lc_it (walk_range (lo := 1) (n := n - 1)) (fun i H' => Same (upd H p0 (.lst [V.int 0])) H' ∧ H' D = some (.lst (natV ((List.range i).map fun j => lb (1 + j))))) ⟨same_new hD, upd_same⟩ (fun _ _ _ _ => trivial) ?_ ?_
  · rintro i x H1 H2 hi ⟨s1, hD1⟩ ⟨rfl, hx⟩
    have hx : x = V.int ((1 + i : Nat) : Int) := hx.trans (congrArg V.int (by omega))
    subst hx
    refine ⟨rfl, _, rfl, 1 + i, rfl, by omega, _, hD1, ?_, ?_, ?_⟩
    · rw [natV_len, List.length_map, List.length_range]
      exact small_lt (by omega)
    · exact fun c o z => by rw [upd_ne (ne_of_none z hD)]; exact s1 _ _ z
    · rw [upd_same, range_snoc, natV_append]
      rfl
  · rintro H1 ⟨s1, hD1⟩
    refine ⟨_, _, _, _, rfl, rfl, s1 _ _ f0, hD1, ?_, fun q hq => ?_⟩
    · rw [natV_len, List.length_map, List.length_range]
      exact small_len (by show 1 + (n - 1) ≤ _; omega)
    · refine h _ q ((s0.trans s1).trans (same_new hq)) ((s0.trans s1).free hq) ?_
      rw [upd_same]
      have e : (List.range n).map lb = 0 :: (List.range (n - 1)).map fun j => lb (1 + j) := by
        obtain ⟨m, rfl⟩ : ∃ m, n = m + 1 := ⟨n - 1, by omega⟩
        rw [List.range_succ_eq_map, List.map_cons, List.map_map, lb_zero, Nat.add_sub_cancel]
        congr 1
        apply List.map_congr_left
        intro j _
        show lb (j + 1) = _
        rw [Nat.add_comm]
      rw [e]
      rfl
/-- what stands at a set's place, by its rest -/
theorem sub_int {k a : Nat} (h : 2 ^ a ≤ k) : ((k : Nat) : Int) - 1 * 2 ^ ((a : Nat) : Int).toNat = ((k - 2 ^ a : Nat) : Int) := by
  rw [shl1]
  omega
theorem cpow {i : Nat} (h : i ≤ 1000) : CPow 1 ((i : Nat) : Int) := ⟨by omega, by omega, by decide⟩
def sp_sums_by (K : PySem.W.Frag) : Sp := fun vs H Q _ => ∃ (va bi : Addr) (f : Nat → Nat) (m : Nat), vs = [.ref va, .ref bi] ∧ m ≤ 16 ∧ H va = some (.lst (natV ((List.range m).map f))) ∧ H bi = some (.lst (natV ((List.range (2 ^ m)).map lb))) ∧ NewN H Q ((List.range (2 ^ m)).map (sm f m))
theorem pow16 {m : Nat} (h : m ≤ 16) : 1 ≤ 2 ^ m ∧ 2 ^ m ≤ 65536 := ⟨Nat.two_pow_pos m, (Nat.pow_le_pow_iff_right (by decide : 1 < 2)).mpr h⟩
theorem sc_sums_by : FnScope ["values", "bits", "found", "kept", "own"] ["values", "bits"] (defScope (top 9)) := ⟨rfl, rfl, rfl, by decide +kernel, rfl, by decide +kernel, by decide +kernel⟩
theorem ok_sums_by (T : Txt K mg) : Def P w K mg base CX0 1 "sums_by" ["values", "bits"] (sp_sums_by K) := by
  obtain ⟨fd, F⟩ := fd_sums_by T
  refine Def.mk' F sc_sums_by (gl_sums_by T) (fun vs H Q E h => by obtain ⟨_, _, _, _, rfl, _⟩ := h; rfl) (fun _ _ _ _ _ _ us hl => match us, hl with | [_, _], _ => rfl) fun cdv A outer s H vs Q E hr h => ?_
  refine ⟨_, PSs.nox (pss_cons (ps_set (i := 2) sc_sums_by.nd rfl (Or.inl rfl) (pe_lst (pa_cons pe_int pa_nil)))
    (pss_cons (ps_for PassesOwn.never rfl (pi_range2 rfl (fr_range T) (pa_cons pe_int (pa_cons (pe_callB call_len_seq (by rfl) (fr_len T) PySem.boot_len (pa_cons (pv 1) pa_nil)) pa_nil))) (pg_name (i := 3) sc_sums_by.nd rfl (Or.inl rfl))
      (pss_cons (ps_set (i := 4) sc_sums_by.nd rfl (Or.inl rfl) (pe_ix ix_list (pv 1) (pv 3) (fun _ _ => rfl)))
      (pss_one (ps_expr (pe_bm PySem.F.plainAttrs_list PySem.F.slot_list_append PySem.F.type_list_append mt_append (pv 2) (pa_cons (pe_op op_add (pe_ix ix_list (pv 2) (pe_op op_sub (pv 3) (pe_op op_shl pe_int (pv 4))) (fun _ _ => rfl)) (pe_ix ix_list (pv 0) (pv 4) (fun _ _ => rfl))) pa_nil))))))
    (pss_one (ps_ret (pv 2))))), ?_⟩
  obtain ⟨va, bi, f, m, rfl, hm, hva, hbi, h⟩ := h
  obtain ⟨h1, h2⟩ := pow16 hm
  refine ⟨by show 1 ≤ sizeLine; decide, fun D hD => ?_⟩
  have sD : Same H (upd H D (.lst [V.int 0])) := same_new hD
  refine ⟨_, rfl, _, _, rfl, .inl (SqL.of (sD _ _ hbi)), ?_⟩
  rw [natV_len, List.length_map, List.length_range]
  refine ⟨_, _, rfl, ⟨by decide, by decide, by omega, by omega⟩, ?_⟩
  have hn : (((2 ^ m : Nat) : Int) - 1).toNat = 2 ^ m - 1 := by omega
  rw [hn]
  refine for_range (lo := 1) (n := 2 ^ m - 1) (fun i σ H' => (∃ u v, σ = [some (.ref va), some (.ref bi), some (.ref D), u, v]) ∧ Same H H' ∧ H' D = some (.lst (natV ((List.range (1 + i)).map (sm f m))))) ⟨⟨_, _, rfl⟩, sD, ?_⟩ ?_ ?_
  · rw [upd_same]
    show _ = some (HO.lst (natV [sm f m 0]))
    rw [Bk.sm_zero]
    rfl
  · rintro i σ H1 hi ⟨⟨u, v, rfl⟩, s1, hD1⟩
    have e : (1 : Int) + (i : Nat) = ((1 + i : Nat) : Int) := by omega
    rw [e]
    have hk : 1 + i < 2 ^ m := by omega
    have h0 : 0 < 1 + i := by omega
    generalize hki : 1 + i = k at hk h0 hD1 ⊢
    have hlb := Bk.lb_lt h0 hk
    have hge := Bk.two_pow_le_of_bit (Bk.lb_spec k h0).1
    have hlt := Bk.sub_lb_lt h0
    refine ⟨_, rfl, _, rfl, _, _, _, _, rfl, rfl, SqL.of (s1 _ _ hbi), atI_nat (natV_get (range_get hk)), ?_⟩
    refine ⟨_, rfl, .inl ⟨rfl, _, SqL.of hD1⟩, _, rfl, _, rfl, _, rfl, _, _, rfl, rfl, cpow (by omega), _, _, rfl, rfl, ?_⟩
    dsimp only
    rw [sub_int hge]
    refine ⟨_, _, _, _, rfl, rfl, SqL.of hD1, atI_nat (natV_get (range_get hlt)), _, rfl, _, rfl, _, _, _, _, rfl, rfl, SqL.of (s1 _ _ hva), atI_nat (natV_get (range_get hlb)), _, _, rfl, rfl, _, _, _, rfl, rfl, hD1, ?_, ?_⟩
    · rw [natV_len, List.length_map, List.length_range]
      exact small_lt (by omega)
    · refine ⟨⟨_, _, rfl⟩, fun c o z => by rw [upd_ne (ne_of_none z hD)]; exact s1 _ _ z, ?_⟩
      rw [upd_same, show 1 + (i + 1) = k + 1 by omega, range_snoc, natV_append, Bk.sm_step h0 hk]
      rfl
  · rintro σ H1 ⟨⟨u, v, rfl⟩, s1, hD1⟩
    refine ⟨_, rfl, h H1 D s1 hD ?_⟩
    rw [hD1, show 1 + (2 ^ m - 1) = 2 ^ m by omega]
end
end Bw
set_option Elab.async false
set_option linter.all false
set_option maxRecDepth 100000
set_option maxHeartbeats 4000000
namespace Bw
open PySem PySem.Spec PyProof.Rows L2
section
variable {P : Program} {w : World} {K : PySem.W.Frag} {mg : Str → Option Value} {base : Heap}
open Bk (lb memb sm sz mm asked lines cnt mn)
/-! ### Held -/
def hdF (ta r c sl al ll cl : V) : List (Str × V) := [("table", ta), ("room", r), ("changes", c), ("sizes", sl), ("asked", al), ("lines", ll), ("counts", cl)]
section
variable {a b c d e f g : V}
theorem hd_table : (hdF a b c d e f g).lookup ("table" : Str) = some a := by kernel_rfl
theorem hd_room : (hdF a b c d e f g).lookup ("room" : Str) = some b := by kernel_rfl
theorem hd_changes : (hdF a b c d e f g).lookup ("changes" : Str) = some c := by kernel_rfl
theorem hd_sizes : (hdF a b c d e f g).lookup ("sizes" : Str) = some d := by kernel_rfl
theorem hd_asked : (hdF a b c d e f g).lookup ("asked" : Str) = some e := by kernel_rfl
theorem hd_lines : (hdF a b c d e f g).lookup ("lines" : Str) = some f := by kernel_rfl
theorem hd_counts : (hdF a b c d e f g).lookup ("counts" : Str) = some g := by kernel_rfl
end
theorem hd_put0 (a b c d e f g : V) : putF "counts" g (putF "lines" f (putF "asked" e (putF "sizes" d (putF "changes" c (putF "room" b (putF "table" a [])))))) = hdF a b c d e f g := by kernel_rfl
theorem hd_putA (a b c d e f g x : V) : putF "asked" x (hdF a b c d e f g) = hdF a b c d x f g := by kernel_rfl
theorem hd_putL (a b c d e f g x : V) : putF "lines" x (hdF a b c d e f g) = hdF a b c d e x g := by kernel_rfl
theorem hd_putC (a b c d e f g x : V) : putF "counts" x (hdF a b c d e f g) = hdF a b c d e f x := by kernel_rfl
theorem hd_putR (a b c d e f g x : V) : putF "room" x (hdF a b c d e f g) = hdF a x c d e f g := by kernel_rfl
theorem hd_putH (a b c d e f g x : V) : putF "changes" x (hdF a b c d e f g) = hdF a b x d e f g := by kernel_rfl
structure HdX (K : PySem.W.Frag) (N : Hp) (h : Addr) (t : Vamvsa.Table) (r c : Nat) (dx ta sl al ll cl : Addr) : Prop where
  ins : N h = some (.ins (He.ga K "Held") dx (hdF (.ref ta) (.int (r : Nat)) (.int (c : Nat)) (.ref sl) (.ref al) (.ref ll) (.ref cl)))
  tb : TbAt K (cut [h] N) ta t
  sizes : N sl = some (.lst (natV ((List.range (mm t)).map (sz t))))
  wf : WF t
def sets (t : Vamvsa.Table) (f : Nat → Nat) : List V := natV ((List.range (2 ^ mm t)).map f)
/-- a table and terms at h; p: whether it is prepared -/
def HdAt (K : PySem.W.Frag) (N : Hp) (h : Addr) (t : Vamvsa.Table) (r c : Nat) (p : Bool) : Prop := ∃ dx ta sl al ll cl, HdX K N h t r c dx ta sl al ll cl ∧
  if p = true then N al = some (.lst (sets t (asked t))) ∧ N ll = some (.lst (sets t (lines t))) ∧ N cl = some (.lst (sets t (cnt t))) else N al = some (.lst [])
theorem HdX.same {N N' : Hp} {h : Addr} {t : Vamvsa.Table} {r c : Nat} {dx ta sl al ll cl : Addr} (X : HdX K N h t r c dx ta sl al ll cl) (s : Same N N') : HdX K N' h t r c dx ta sl al ll cl :=
  ⟨s _ _ X.ins, X.tb.same (cut_but (.of_same s) (fun _ z => z)), s _ _ X.sizes, X.wf⟩
theorem HdAt.same {N N' : Hp} {h : Addr} {t : Vamvsa.Table} {r c : Nat} {p : Bool} (X : HdAt K N h t r c p) (s : Same N N') : HdAt K N' h t r c p := by
  obtain ⟨dx, ta, sl, al, ll, cl, h1, h2⟩ := X
  refine ⟨dx, ta, sl, al, ll, cl, h1.same s, ?_⟩
  cases p with
  | false => exact s _ _ h2
  | true => exact ⟨s _ _ h2.1, s _ _ h2.2.1, s _ _ h2.2.2⟩
/-- all that stands in B stands in H -/
def Ext (B H : Hp) : Prop := ∀ a, H a = none → B a = none
theorem Ext.but {B H H' : Hp} {M : List Addr} (e : Ext B H) (b : But M H H') (m : ∀ x ∈ M, H' x = none → B x = none) : Ext B H' := fun a ha => by
  by_cases c : a ∈ M
  · exact m a c ha
  · cases q : H a with
    | none => exact e a q
    | some o => rw [b a o q c] at ha; cases ha
theorem nw_up {B H H' : Hp} {h : Addr} (b : But [h] H H') : Same (cut [h] (newer B H)) (cut [h] (newer B H')) := fun c o q => by
  obtain ⟨h1, h2⟩ := cut_some q
  obtain ⟨h3, h4⟩ := newer_some h2
  rw [cut_out h1]
  exact newer_of h3 (b c o h4 h1)
theorem mm_le {t : Vamvsa.Table} (W : WF t) : mm t ≤ 16 := (Nat.pow_le_pow_iff_right (by decide : 1 < 2)).mpr W.wc
def sp_Held_init (K : PySem.W.Frag) : Sp := fun vs H Q _ => ∃ (h ta dx : Addr) (B : Hp) (t : Vamvsa.Table), vs = [.ref h, .ref ta] ∧ H h = some (.ins (He.ga K "Held") dx []) ∧ B h = none ∧ Ext B H ∧ TbAt K (cut [h] (newer B H)) ta t ∧ WF t ∧
  ∀ H', But [h] H H' → HdAt K (newer B H') h t 1000000 0 false → Q .non H'
theorem sc_Held_init : FnScope ["self", "table", "grouping"] ["self", "table"] (defScope (inClass (top 3) 0)) := ⟨rfl, rfl, rfl, by decide +kernel, rfl, by decide +kernel, by decide +kernel⟩
theorem ok_Held_init (T : Txt K mg) : DefC P w K mg base CX0 2 "Held" ["self", "table"] (sp_Held_init K) := by
  obtain ⟨fd, F⟩ := fd_Held_init T
  refine DefC.mk' F sc_Held_init (gl_Held T) (mk_Held T) (fun vs H Q E h => by obtain ⟨_, _, _, _, _, rfl, _⟩ := h; rfl) (fun _ _ _ _ _ _ us hl => match us, hl with | [_, _], _ => rfl) fun cdv A outer s H vs Q E hr h => ?_
  refine ⟨_, PSs.nox (pss_cons (ps_fld (pv 0) (pv 1) rfl)
    (pss_cons (ps_fld (pv 0) (pe_gi (in_FIRST_ROOM T)) rfl)
    (pss_cons (ps_fld (pv 0) pe_int rfl)
    (pss_cons (ps_fld (pv 0) (pe_lc (own := [("grouping", 2)]) (g := gName 2) rfl sc_Held_init.nd (pi_range1 rfl (fr_range T) (pa_cons (pe_op op_shl pe_int (pe_callB call_len_seq (by rfl) (fr_len T) PySem.boot_len (pa_cons (pe_fld (pv 1) rfl) pa_nil))) pa_nil)) (blkOk_by (own := [("grouping", 2)]) (N := ["self", "table", "grouping"]) (sc := defScope (inClass (top 3) 0)) (by decide +kernel)) (fun _ _ _ _ _ => pg_name (i := 2) sc_Held_init.nd rfl (Or.inl rfl)) (fun _ _ _ _ _ => pts_nil) (fun _ _ _ _ _ => Def.call (ok_size_of T) hr (by decide) (pa_cons (pv 1) (pa_cons (pv 2) pa_nil)))) rfl)
    (pss_cons (ps_fld (pv 0) (pe_lst pa_nil) rfl)
    (pss_cons (ps_fld (pv 0) (pe_lst pa_nil) rfl)
    (pss_one (ps_fld (pv 0) (pe_lst pa_nil) rfl)))))))), ?_⟩
  obtain ⟨a, ta, dx, B, t, rfl, ha, hB, hE, hT, W, h⟩ := h
  have hm := mm_le W
  refine ⟨_, rfl, _, rfl, _, _, _, _, rfl, ha, cl_Held T, na_Held_table T, (by show 0 < 1000; decide), ?_⟩
  refine ⟨_, rfl, _, _, _, _, rfl, upd_same, cl_Held T, na_Held_room T, (by show 1 < 1000; decide), ?_⟩
  rw [upd_upd]
  refine ⟨_, rfl, _, _, _, _, rfl, upd_same, cl_Held T, na_Held_changes T, (by show 2 < 1000; decide), ?_⟩
  rw [upd_upd]
  have b1 : But [a] H (upd H a (.ins (He.ga K "Held") dx (putF "changes" (.int 0) (putF "room" (.int 1000000) (putF "table" (.ref ta) []))))) := .put (by simp)
  have f1 : (upd H a (.ins (He.ga K "Held") dx (putF "changes" (.int 0) (putF "room" (.int 1000000) (putF "table" (.ref ta) []))))) a = some (.ins (He.ga K "Held") dx (putF "changes" (.int 0) (putF "room" (.int 1000000) (putF "table" (.ref ta) [])))) := upd_same
  generalize (upd H a (.ins (He.ga K "Held") dx (putF "changes" (.int 0) (putF "room" (.int 1000000) (putF "table" (.ref ta) []))))) = H1 at b1 f1 ⊢
  have hT1 : TbAt K (cut [a] (newer B H1)) ta t := hT.same (nw_up b1)
  have hS1 : Same (cut [a] (newer B H1)) H1 := fun c o z => newer_in _ _ _ _ (cut_same _ _ _ _ z)
  obtain ⟨cl, rl, ql, ⟨tdx, hta⟩, ⟨ca, hcl, hca⟩, _⟩ := id hT1
  refine ⟨_, rfl, _, _, _, _, _, rfl, hS1 _ _ hta, cl_Table T, na_Table_columns T, tb_columns, _, _, rfl, .inl (SqL.of (hS1 _ _ hcl)), ?_⟩
  rw [List.length_map, hca.len]
  refine ⟨_, _, rfl, rfl, cpow (by have := W.wc; omega), ?_⟩
  dsimp only
  rw [shl1]
  obtain ⟨q1, q2⟩ : 1 ≤ 2 ^ t.cols.length ∧ 2 ^ t.cols.length ≤ 65536 := pow16 (by have := W.wc; omega)
  refine ⟨_, rfl, by omega, by omega, fun D hD => ?_⟩
  have hDa : a ≠ D := fun z => by rw [← z, f1] at hD; cases hD
  rw [Int.toNat_natCast]
  refine lc_it (walk_range (lo := 0) (n := 2 ^ t.cols.length)) (fun i H' => Same H1 H' ∧ H' D = some (.lst (natV ((List.range i).map (sz t))))) ⟨same_new hD, upd_same⟩ (fun _ _ _ _ => trivial) ?_ ?_
  · rintro i x H2 H3 hi ⟨s2, hD2⟩ ⟨rfl, hx⟩
    have hx : x = V.int ((i : Nat) : Int) := hx.trans (congrArg V.int (by omega))
    subst hx
    refine ⟨rfl, _, rfl, _, rfl, ta, t, i, rfl, hT1.same (hS1.trans s2), W, fun H4 s4 => ⟨_, s4 _ _ hD2, ?_, ?_, ?_⟩⟩
    · rw [natV_len, List.length_map, List.length_range]
      exact small_lt (by omega)
    · exact fun c o z => by rw [upd_ne (ne_of_none z hD)]; exact s4 _ _ (s2 _ _ z)
    · rw [upd_same, range_snoc, natV_append]
      rfl
  rintro H2 ⟨s2, hD2⟩
  refine ⟨_, rfl, _, _, _, _, rfl, s2 _ _ f1, cl_Held T, na_Held_sizes T, (by show 3 < 1000; decide), ?_⟩
  refine ⟨by show 0 ≤ sizeLine; decide, fun al hal => ?_⟩
  have haa : a ≠ al := fun z => by rw [← z, upd_same] at hal; cases hal
  rw [upd_ne (Ne.symm haa)] at hal
  refine ⟨_, rfl, _, _, _, _, rfl, (upd_ne haa).trans upd_same, cl_Held T, na_Held_asked T, (by show 4 < 1000; decide), ?_⟩
  refine ⟨by show 0 ≤ sizeLine; decide, fun ll hll => ?_⟩
  have hal2 : a ≠ ll := fun z => by rw [← z, upd_same] at hll; cases hll
  have hll2 : al ≠ ll := fun z => by rw [← z, upd_ne (Ne.symm haa), upd_same] at hll; cases hll
  rw [upd_ne (Ne.symm hal2), upd_ne (Ne.symm hll2), upd_ne (Ne.symm hal2)] at hll
  refine ⟨_, rfl, _, _, _, _, rfl, (upd_ne hal2).trans upd_same, cl_Held T, na_Held_lines T, (by show 5 < 1000; decide), ?_⟩
  refine ⟨by show 0 ≤ sizeLine; decide, fun cl2 hcl2 => ?_⟩
  have hac : a ≠ cl2 := fun z => by rw [← z, upd_same] at hcl2; cases hcl2
  have hcl3 : ll ≠ cl2 := fun z => by rw [← z, upd_ne (Ne.symm hal2), upd_same] at hcl2; cases hcl2
  have hcl4 : al ≠ cl2 := fun z => by rw [← z, upd_ne (Ne.symm haa), upd_ne hll2, upd_ne (Ne.symm haa), upd_same] at hcl2; cases hcl2
  rw [upd_ne (Ne.symm hac), upd_ne (Ne.symm hcl3), upd_ne (Ne.symm hac), upd_ne (Ne.symm hcl4), upd_ne (Ne.symm hac)] at hcl2
  refine ⟨_, rfl, _, _, _, _, rfl, (upd_ne hac).trans upd_same, cl_Held T, na_Held_counts T, (by show 6 < 1000; decide), ?_⟩
  rw [hd_put0]
  have hb2 : But [a] H H2 := b1.trans (.of_same s2)
  have hold : ∀ (u1 u2 u3 u4 : HO) c o, H2 c = some o → c ≠ a → upd (upd (upd (upd (upd (upd (upd H2 a u1) al (.lst [])) a u2) ll (.lst [])) a u3) cl2 (.lst [])) a u4 c = some o := fun u1 u2 u3 u4 c o e n => by
    rw [upd_ne n, upd_ne (ne_of_none e hcl2), upd_ne n, upd_ne (ne_of_none e hll), upd_ne n, upd_ne (ne_of_none e hal), upd_ne n]
    exact e
  have fin : ∀ H' : Hp, (∀ c o, H2 c = some o → c ≠ a → H' c = some o) → H' a = some (.ins (He.ga K "Held") dx (hdF (.ref ta) (.int 1000000) (.int 0) (.ref D) (.ref al) (.ref ll) (.ref cl2))) → H' al = some (.lst []) → Q .non H' := fun H' hold ha' hal' => by
    have bF : But [a] H H' := fun c o e n => hold c o (hb2 c o e n) (by simpa using n)
    refine h _ bF ⟨dx, ta, D, al, ll, cl2, ⟨newer_of hB ha', hT.same (nw_up bF), newer_of ?_ (hold D _ hD2 (Ne.symm hDa)), W⟩, newer_of ?_ hal'⟩
    · exact hE D (by cases q : H D with | none => rfl | some o => rw [b1 D o q (by simpa using Ne.symm hDa)] at hD; cases hD)
    · exact hE al (by cases q : H al with | none => rfl | some o => rw [hb2 al o q (by simpa using Ne.symm haa)] at hal; cases hal)
  exact fin _ (fun c o e n => hold _ _ _ _ c o e n) upd_same (by rw [upd_ne (Ne.symm haa), upd_ne hcl4, upd_ne (Ne.symm haa), upd_ne hll2, upd_ne (Ne.symm haa), upd_same])
end
end Bw
set_option Elab.async false
set_option linter.all false
set_option maxRecDepth 100000
set_option maxHeartbeats 4000000
namespace Bw
open PySem PySem.Spec PyProof.Rows L2
section
variable {P : Program} {w : World} {K : PySem.W.Frag} {mg : Str → Option Value} {base : Heap}
open Bk (lb memb sm sz mm asked lines cnt mn rd cf)
theorem HdX.tbl {H : Hp} {h : Addr} {t : Vamvsa.Table} {r c : Nat} {dx ta sl al ll cl : Addr} (X : HdX K H h t r c dx ta sl al ll cl) : TbAt K H ta t := X.tb.same (cut_same _ _)
theorem bls_get {f : Nat → Bool} {m i : Nat} (h : i < m) : ((List.range m).map fun j => V.bl (f j))[i]? = some (V.bl (f i)) := range_get (f := fun j => V.bl (f j)) h
/-- what is read, for each set -/
def sp_read_costs (K : PySem.W.Frag) : Sp := fun vs H Q _ => ∃ (h : Addr) (t : Vamvsa.Table) (r c : Nat) (p : Bool) (g : Nat) (bi : Addr), vs = [.ref h, .int (g : Nat), .ref bi] ∧ HdAt K H h t r c p ∧ g < mm t ∧ H bi = some (.lst (sets t lb)) ∧
  NewN H Q ((List.range (2 ^ mm t)).map fun K => mn t g (memb (mm t) K))
theorem sc_read_costs : FnScope ["held", "grouping", "bits", "found", "is_read", "kept", "own", "rest", "cost"] ["held", "grouping", "bits"] (defScope (top 8)) := ⟨rfl, rfl, rfl, by decide +kernel, rfl, by decide +kernel, by decide +kernel⟩
theorem ok_read_costs (T : Txt K mg) : Def P w K mg base CX0 2 "read_costs" ["held", "grouping", "bits"] (sp_read_costs K) := by
  obtain ⟨fd, F⟩ := fd_read_costs T
  refine Def.mk' F sc_read_costs (gl_read_costs T) (fun vs H Q E h => by obtain ⟨_, _, _, _, _, _, _, rfl, _⟩ := h; rfl) (fun _ _ _ _ _ _ us hl => match us, hl with | [_, _, _], _ => rfl) fun cdv A outer s H vs Q E hr h => ?_
  refine ⟨_, PSs.nox (pss_cons (ps_set (i := 3) sc_read_costs.nd rfl (Or.inl rfl) (pe_lst (pa_cons (pe_callB call_len_seq (by rfl) (fr_len T) PySem.boot_len (pa_cons (pe_fld (pe_fld (pv 0) rfl) rfl) pa_nil)) pa_nil)))
    (pss_cons (ps_set (i := 4) sc_read_costs.nd rfl (Or.inl rfl) (pe_lst (pa_cons pe_bl pa_nil)))
    (pss_cons (ps_for PassesOwn.never rfl (pi_range2 rfl (fr_range T) (pa_cons pe_int (pa_cons (pe_callB call_len_seq (by rfl) (fr_len T) PySem.boot_len (pa_cons (pv 2) pa_nil)) pa_nil))) (pg_name (i := 5) sc_read_costs.nd rfl (Or.inl rfl))
      (pss_cons (ps_set (i := 6) sc_read_costs.nd rfl (Or.inl rfl) (pe_ix ix_list (pv 2) (pv 5) (fun _ _ => rfl)))
      (pss_cons (ps_set (i := 7) sc_read_costs.nd rfl (Or.inl rfl) (pe_op op_sub (pv 5) (pe_op op_shl pe_int (pv 6))))
      (pss_cons (ps_set (i := 8) sc_read_costs.nd rfl (Or.inl rfl) (pe_ix ix_list (pv 3) (pv 7) (fun _ _ => rfl)))
      (pss_cons (ps_if (PW.pt (pw_and (pt_val (Def.call (ok_is_within T) hr (by decide) (pa_cons (pv 1) (pa_cons (pv 6) pa_nil)))) (pw_and1 (PW.pt (pw_or (pt_not (pt_val (pe_ix ix_list (pv 4) (pv 7) (fun _ _ => rfl)))) (pw_or1 (pt_cmpR op_lt (pe_ix ix_list (pe_fld (pv 0) rfl) (pv 6) (fun _ _ => rfl)) (pv 8) (nomark _))))))))
        (pss_one (ps_set (i := 8) sc_read_costs.nd rfl (Or.inl rfl) (pe_ix ix_list (pe_fld (pv 0) rfl) (pv 6) (fun _ _ => rfl))))
        (pss_nil))
      (pss_cons (ps_expr (pe_bm PySem.F.plainAttrs_list PySem.F.slot_list_append PySem.F.type_list_append mt_append (pv 3) (pa_cons (pv 8) pa_nil)))
      (pss_one (ps_expr (pe_bm PySem.F.plainAttrs_list PySem.F.slot_list_append PySem.F.type_list_append mt_append (pv 4) (pa_cons (pe_or (pe_ix ix_list (pv 4) (pv 7) (fun _ _ => rfl)) (pe_one (Def.call (ok_is_within T) hr (by decide) (pa_cons (pv 1) (pa_cons (pv 6) pa_nil))))) pa_nil))))))))))
    (pss_one (ps_ret (pv 3)))))), ?_⟩
  obtain ⟨a, t, r, c, p, g, bi, rfl, ⟨dx, ta, sl, al, ll, cl, X, _⟩, hg, hbi, h⟩ := h
  have hm := mm_le X.wf
  obtain ⟨q1, q2⟩ := pow16 hm
  obtain ⟨cl', rl, ql, ⟨tdx, hta⟩, _, ⟨ra, hrl, hra⟩, _⟩ := X.tbl
  refine ⟨_, rfl, _, _, _, _, _, rfl, X.ins, cl_Held T, na_Held_table T, hd_table, _, _, _, _, _, rfl, hta, cl_Table T, na_Table_rows T, tb_rows, _, _, rfl, .inl (SqL.of hrl), by show 1 ≤ sizeLine; decide, fun D hD => ?_⟩
  rw [List.length_map, hra.len]
  refine ⟨by show 1 ≤ sizeLine; decide, fun D2 hD2 => ?_⟩
  have sD : Same H (upd H D (.lst [V.int (t.rows.length : Nat)])) := same_new hD
  have hDD : D ≠ D2 := fun z => by rw [← z, upd_same] at hD2; cases hD2
  have hD2' : H D2 = none := sD.free hD2
  have sD2 : Same H (upd (upd H D (.lst [V.int (t.rows.length : Nat)])) D2 (.lst [V.bl false])) := sD.trans (same_new hD2)
  refine ⟨_, rfl, _, _, rfl, .inl (SqL.of (sD2 _ _ hbi)), ?_⟩
  rw [show (sets t lb).length = 2 ^ mm t by unfold sets; rw [natV_len, List.length_map, List.length_range]]
  refine ⟨_, _, rfl, ⟨by decide, by decide, by omega, by omega⟩, ?_⟩
  have hn : (((2 ^ mm t : Nat) : Int) - 1).toNat = 2 ^ mm t - 1 := by omega
  rw [hn]
  refine for_range (lo := 1) (n := 2 ^ mm t - 1) (fun i σ H' => (∃ u v w x, σ = [some (.ref a), some (.int (g : Nat)), some (.ref bi), some (.ref D), some (.ref D2), u, v, w, x]) ∧ Same H H' ∧ H' D = some (.lst (natV ((List.range (1 + i)).map fun K => mn t g (memb (mm t) K)))) ∧ H' D2 = some (.lst ((List.range (1 + i)).map fun K => V.bl (rd t g K)))) ⟨⟨_, _, _, _, rfl⟩, sD2, ?_, ?_⟩ ?_ ?_
  · rw [upd_ne hDD, upd_same]
    show _ = some (HO.lst (natV [mn t g (memb (mm t) 0)]))
    rw [Bk.memb_zero]
    rfl
  · rw [upd_same]
    show _ = some (HO.lst [V.bl ((memb (mm t) 0).any (cf t g))])
    rw [Bk.memb_zero]
    rfl
  · rintro i σ H1 hi ⟨⟨u, v, w', x, rfl⟩, s1, f1, f2⟩
    have e : (1 : Int) + (i : Nat) = ((1 + i : Nat) : Int) := by omega
    rw [e]
    have hk : 1 + i < 2 ^ mm t := by omega
    have h0 : 0 < 1 + i := by omega
    have hsi : 1 + (i + 1) = (1 + i) + 1 := by omega
    rw [hsi]
    generalize hki : 1 + i = k at hk h0 f1 f2 ⊢
    have hlb := Bk.lb_lt h0 hk
    have hge := Bk.two_pow_le_of_bit (Bk.lb_spec k h0).1
    have hlt := Bk.sub_lb_lt h0
    have hms := Bk.mn_step (t := t) (q := g) h0 hk
    have hrs := Bk.rd_step (t := t) (q := g) h0 hk
    have hwi : decide (g &&& lb k = g) = cf t g (lb k) := (Bk.cf_eq hg).symm
    have gL : atI (sets t lb) ((k : Nat) : Int) = some (V.int (lb k : Nat)) := atI_nat (natV_get (range_get hk))
    have gR : atI (natV ((List.range k).map fun K => mn t g (memb (mm t) K))) ((k - 2 ^ lb k : Nat) : Int) = some (V.int (mn t g (memb (mm t) (k - 2 ^ lb k)) : Nat)) := atI_nat (natV_get (range_get hlt))
    have gB : atI ((List.range k).map fun K => V.bl (rd t g K)) ((k - 2 ^ lb k : Nat) : Int) = some (V.bl (rd t g (k - 2 ^ lb k))) := atI_nat (bls_get hlt)
    have gS : atI (natV ((List.range (mm t)).map (sz t))) ((lb k : Nat) : Int) = some (V.int (sz t (lb k) : Nat)) := atI_nat (natV_get (range_get hlb))
    refine ⟨_, rfl, _, rfl, _, _, _, _, rfl, rfl, SqL.of (s1 _ _ hbi), gL, ?_⟩
    refine ⟨_, rfl, _, rfl, _, _, rfl, rfl, cpow (by omega), _, _, rfl, rfl, ?_⟩
    dsimp only
    rw [sub_int hge]
    refine ⟨_, rfl, _, rfl, _, _, _, _, rfl, rfl, SqL.of f1, gR, ?_⟩
    -- the last two words, at a cost m
    have fin : ∀ m : Nat, m = mn t g (memb (mm t) k) → tSeq (tDrop (tBM K "list" rAppend (tVar 3) (tCons (tVar 8) tNil))) (tDrop (tBM K "list" rAppend (tVar 4) (tCons (tOrV (tOp (rIxL K) (tVar 4) (tVar 7)) (tCall sp_is_within [] E0 (tCons (tVar 1) (tCons (tVar 6) tNil)))) tNil)))
        { nx := fun σ H' => (∃ u v w x, σ = [some (.ref a), some (.int (g : Nat)), some (.ref bi), some (.ref D), some (.ref D2), u, v, w, x]) ∧ Same H H' ∧ H' D = some (.lst (natV ((List.range (k + 1)).map fun K => mn t g (memb (mm t) K)))) ∧ H' D2 = some (.lst ((List.range (k + 1)).map fun K => V.bl (rd t g K))), rt := Q }
        [some (.ref a), some (.int (g : Nat)), some (.ref bi), some (.ref D), some (.ref D2), some (.int (k : Nat)), some (.int (lb k : Nat)), some (.int (k - 2 ^ lb k : Nat)), some (.int (m : Nat))] H1 := fun m em => by
      have g1 : (upd H1 D (.lst (natV ((List.range k).map fun K => mn t g (memb (mm t) K)) ++ [V.int (m : Nat)]))) D2 = some (.lst ((List.range k).map fun K => V.bl (rd t g K))) := by rw [upd_ne (Ne.symm hDD)]; exact f2
      have s2 : Same H (upd H1 D (.lst (natV ((List.range k).map fun K => mn t g (memb (mm t) K)) ++ [V.int (m : Nat)]))) := fun c o z => by rw [upd_ne (ne_of_none z hD)]; exact s1 _ _ z
      have done : ∀ b : Bool, b = rd t g k → (∃ u v w x, [some (V.ref a), some (.int (g : Nat)), some (.ref bi), some (.ref D), some (.ref D2), some (.int (k : Nat)), some (.int (lb k : Nat)), some (.int (k - 2 ^ lb k : Nat)), some (.int (m : Nat))] = [some (.ref a), some (.int (g : Nat)), some (.ref bi), some (.ref D), some (.ref D2), u, v, w, x]) ∧
          Same H (upd (upd H1 D (.lst (natV ((List.range k).map fun K => mn t g (memb (mm t) K)) ++ [V.int (m : Nat)]))) D2 (.lst (((List.range k).map fun K => V.bl (rd t g K)) ++ [V.bl b]))) ∧
          (upd (upd H1 D (.lst (natV ((List.range k).map fun K => mn t g (memb (mm t) K)) ++ [V.int (m : Nat)]))) D2 (.lst (((List.range k).map fun K => V.bl (rd t g K)) ++ [V.bl b]))) D = some (.lst (natV ((List.range (k + 1)).map fun K => mn t g (memb (mm t) K)))) ∧
          (upd (upd H1 D (.lst (natV ((List.range k).map fun K => mn t g (memb (mm t) K)) ++ [V.int (m : Nat)]))) D2 (.lst (((List.range k).map fun K => V.bl (rd t g K)) ++ [V.bl b]))) D2 = some (.lst ((List.range (k + 1)).map fun K => V.bl (rd t g K))) := fun b eb => by
        refine ⟨⟨_, _, _, _, rfl⟩, fun c o z => by rw [upd_ne (ne_of_none z hD2')]; exact s2 _ _ z, ?_, ?_⟩
        · rw [upd_ne hDD, upd_same, range_snoc, natV_append, ← em]
          rfl
        · rw [upd_same, range_snoc, ← eb]
      have l1 : (natV ((List.range k).map fun K => mn t g (memb (mm t) K))).length < sizeLine := by rw [natV_len, List.length_map, List.length_range]; exact small_lt (by omega)
      have l2 : ((List.range k).map fun K => V.bl (rd t g K)).length < sizeLine := by rw [List.length_map, List.length_range]; exact small_lt (by omega)
      refine ⟨_, rfl, .inl ⟨rfl, _, SqL.of f1⟩, _, rfl, _, _, _, rfl, rfl, f1, l1, ?_⟩
      refine ⟨_, rfl, .inl ⟨rfl, _, SqL.of g1⟩, _, rfl, _, rfl, _, _, _, _, rfl, rfl, SqL.of g1, gB, _, rfl, ifB (b := rd t g (k - 2 ^ lb k)) rfl (fun b => ?_) fun b => ?_⟩
      · refine ⟨_, _, _, rfl, rfl, g1, l2, done true ?_⟩
        rw [hrs, b]
        rfl
      · refine ⟨_, rfl, _, rfl, g, lb k, rfl, _, _, _, rfl, rfl, g1, l2, done _ ?_⟩
        rw [hrs, b, hwi]
        rfl
    refine ⟨_, rfl, _, rfl, g, lb k, rfl, _, rfl, ifB hwi (fun w => ?_) fun w => ?_⟩
    · refine ⟨_, rfl, _, rfl, _, _, _, _, rfl, rfl, SqL.of f2, gB, _, rfl, ifB (b := !rd t g (k - 2 ^ lb k)) rfl (fun z => ?_) fun z => ?_⟩
      · have z : rd t g (k - 2 ^ lb k) = false := by simpa using z
        rw [if_pos ⟨w, .inl z⟩] at hms
        refine ⟨_, rfl, _, _, _, _, _, rfl, s1 _ _ X.ins, cl_Held T, na_Held_sizes T, hd_sizes, _, rfl, _, _, _, _, rfl, rfl, SqL.of (s1 _ _ X.sizes), gS, ?_⟩
        exact fin _ hms.symm
      · have z : ¬ rd t g (k - 2 ^ lb k) = false := by simpa using z
        refine ⟨_, rfl, _, _, _, _, _, rfl, s1 _ _ X.ins, cl_Held T, na_Held_sizes T, hd_sizes, _, rfl, _, _, _, _, rfl, rfl, SqL.of (s1 _ _ X.sizes), gS, _, rfl, _, _, rfl, rfl, _, rfl, ?_⟩
        by_cases y : sz t (lb k) < mn t g (memb (mm t) (k - 2 ^ lb k))
        · rw [if_pos ⟨w, .inr y⟩] at hms
          refine ifT (decide_eq_true (by omega)) ⟨_, rfl, _, _, _, _, _, rfl, s1 _ _ X.ins, cl_Held T, na_Held_sizes T, hd_sizes, _, rfl, _, _, _, _, rfl, rfl, SqL.of (s1 _ _ X.sizes), gS, ?_⟩
          exact fin _ hms.symm
        · rw [if_neg (by rintro ⟨_, q | q⟩; exact z q; exact y q)] at hms
          exact ifF (decide_eq_false (by omega)) (fin _ hms.symm)
    · rw [if_neg (fun q => by rw [q.1] at w; cases w)] at hms
      exact fin _ hms.symm
  · rintro σ H1 ⟨⟨u, v, w', x, rfl⟩, s1, f1, f2⟩
    refine ⟨_, rfl, h H1 D s1 hD ?_⟩
    rw [f1, show 1 + (2 ^ mm t - 1) = 2 ^ mm t by omega]
end
end Bw
set_option Elab.async false
set_option linter.all false
set_option maxRecDepth 100000
set_option maxHeartbeats 4000000
namespace Bw
open PySem PySem.Spec PyProof.Rows L2
section
variable {P : Program} {w : World} {K : PySem.W.Frag} {mg : Str → Option Value} {base : Heap}
open Bk (lb memb sm sz mm asked lines cnt mn rd cf part timesOf)
theorem pe_fld_K {X : Cx} {K : PySem.W.Frag} {e : Expr} {f : Str} {pos : Pos} {ta : TE} (h : X.K = K) (he : PE X e ta) (hb : attributeBase e f X.env (eval e X.env) = eval e X.env) : PE X (.Attribute e f pos) (tFld K ta f) := by subst h; exact pe_fld he hb
theorem rep_nat (n x : Nat) : (List.replicate n [V.int (x : Nat)]).flatten = natV ((List.range n).map fun _ => x) := by
  induction n with
  | zero => rfl
  | succ m ih =>
    rw [List.replicate_succ', List.flatten_append, ih, range_snoc, natV_append]
    rfl
theorem sum_cast (l : List Nat) : (l.map fun (n : Nat) => (n : Int)).sum = ((l.sum : Nat) : Int) := by
  induction l with
  | nil => rfl
  | cons a r ih => rw [List.map_cons, List.sum_cons, List.sum_cons, ih]; omega
theorem natV_ints (l : List Nat) : natV l = (l.map fun (n : Nat) => (n : Int)).map V.int := by
  unfold natV
  rw [List.map_map]
  rfl
theorem filter_snoc {α β : Type} (p : α → Bool) (f : α → β) {l : List α} {j : Nat} {x : α} (h : l[j]? = some x) :
    ((l.take (j + 1)).filter p).map f = if p x = true then ((l.take j).filter p).map f ++ [f x] else ((l.take j).filter p).map f := by
  rw [take_snoc h, List.filter_append, List.map_append]
  cases e : p x with
  | true => rw [List.filter_cons_of_pos e, if_pos rfl]; rfl
  | false => rw [List.filter_cons_of_neg (by simp [e]), if_neg Bool.false_ne_true]; simp
theorem sets_len (t : Vamvsa.Table) (f : Nat → Nat) : (sets t f).length = 2 ^ mm t := by unfold sets; rw [natV_len, List.length_map, List.length_range]
theorem sets_get {t : Vamvsa.Table} {f : Nat → Nat} {k : Nat} (h : k < 2 ^ mm t) : (sets t f)[k]? = some (V.int (f k : Nat)) := natV_get (range_get h)
theorem sizes_len (t : Vamvsa.Table) : (natV ((List.range (mm t)).map (sz t))).length = mm t := by rw [natV_len, List.length_map, List.length_range]
def sp_prepare (K : PySem.W.Frag) : Sp := fun vs H Q _ => ∃ (h : Addr) (B : Hp) (t : Vamvsa.Table) (r c : Nat) (p : Bool), vs = [.ref h] ∧ Ext B H ∧ HdAt K (newer B H) h t r c p ∧
  ∀ H', But [h] H H' → HdAt K (newer B H') h t r c true → Q .non H'
theorem sc_prepare : FnScope ["held", "bits", "asked", "grouping", "times", "costs", "question", "before", "cost"] ["held"] (defScope (top 10)) := ⟨rfl, rfl, rfl, by decide +kernel, rfl, by decide +kernel, by decide +kernel⟩
theorem ok_prepare (T : Txt K mg) : Def P w K mg base CX0 3 "prepare" ["held"] (sp_prepare K) := by
  obtain ⟨fd, F⟩ := fd_prepare T
  refine Def.mk' F sc_prepare (gl_prepare T) (fun vs H Q E h => by obtain ⟨_, _, _, _, _, _, rfl, _⟩ := h; rfl) (fun _ _ _ _ _ _ us hl => match us, hl with | [_], _ => rfl) fun cdv A outer s H vs Q E hr h => ?_
  refine ⟨_, PSs.nox (pss_cons (ps_if (pt_cmpR op_gt (pe_callB call_len_seq (by rfl) (fr_len T) PySem.boot_len (pa_cons (pe_fld (pv 0) rfl) pa_nil)) pe_int (nomark _))
      (pss_one (ps_retN))
      (pss_nil))
    (pss_cons (ps_set (i := 1) sc_prepare.nd rfl (Or.inl rfl) (Def.call (ok_last_bits T) hr (by decide) (pa_cons (pe_op op_shl pe_int (pe_callB call_len_seq (by rfl) (fr_len T) PySem.boot_len (pa_cons (pe_fld (pv 0) rfl) pa_nil))) pa_nil)))
    (pss_cons (ps_set (i := 2) sc_prepare.nd rfl (Or.inl rfl) (pe_op op_rep (pe_lst (pa_cons pe_int pa_nil)) (pe_callB call_len_seq (by rfl) (fr_len T) PySem.boot_len (pa_cons (pv 1) pa_nil))))
    (pss_cons (ps_for PassesOwn.never rfl (pi_range1 rfl (fr_range T) (pa_cons (pe_callB call_len_seq (by rfl) (fr_len T) PySem.boot_len (pa_cons (pe_fld (pv 0) rfl) pa_nil)) pa_nil)) (pg_name (i := 3) sc_prepare.nd rfl (Or.inr rfl))
      (pss_cons (ps_set (i := 4) sc_prepare.nd rfl (Or.inr rfl) (pe_callB (cr_sum rfl) (by rfl) (fr_sum T) PyProof.Rows.boot_sum (pa_cons (pe_lc (own := [("question", 6)]) (g := gName 6) rfl sc_prepare.nd (pi_list (pe_fld (pe_fld (pv 0) rfl) rfl)) (blkOk_by (own := [("question", 6)]) (N := ["held", "bits", "asked", "grouping", "times", "costs", "question", "before", "cost"]) (sc := defScope (top 10)) (by decide +kernel)) (fun _ _ _ _ _ => pg_name (i := 6) sc_prepare.nd rfl (Or.inl rfl)) (fun _ _ _ _ _ => pts_one (pt_cmpR op_eq (pe_fld_K (K := K) rfl (pv 6) rfl) (pv 3) (nomark _))) (fun _ _ _ _ _ => pe_fld_K (K := K) rfl (pv 6) rfl)) pa_nil)))
      (pss_one (ps_if (pt_cmpR op_gt (pv 4) pe_int (nomark _))
        (pss_cons (ps_set (i := 5) sc_prepare.nd rfl (Or.inl rfl) (Def.call (ok_read_costs T) hr (by decide) (pa_cons (pv 0) (pa_cons (pv 3) (pa_cons (pv 1) pa_nil)))))
        (pss_one (ps_setLc (i := 2) (own := [("before", 7), ("cost", 8)]) (g := gTup K 2 (gCons (gName 7) (gCons (gName 8) gNil))) rfl sc_prepare.nd rfl rfl (sw_true rfl rfl rfl (by decide +kernel)) (pi_zip rfl (fr_zip T) (pa_cons (pv 2) (pa_cons (pv 5) pa_nil))) (blkOk_by (own := [("before", 7), ("cost", 8)]) (N := ["held", "bits", "asked", "grouping", "times", "costs", "question", "before", "cost"]) (sc := defScope (top 10)) (by decide +kernel)) (fun _ _ _ _ _ => pg_tup rfl (pgs_cons (pg_name (i := 7) sc_prepare.nd rfl (Or.inl rfl)) (pgs_cons (pg_name (i := 8) sc_prepare.nd rfl (Or.inl rfl)) pgs_nil))) (fun _ _ _ _ _ => pts_nil) (fun _ _ _ _ _ => pe_op op_add (pv 7) (pe_op op_mul (pv 4) (pv 8))))))
        (pss_nil)))))
    (pss_cons (ps_fld (pv 0) (pv 2) rfl)
    (pss_cons (ps_fld (pv 0) (Def.call (ok_sums_by T) hr (by decide) (pa_cons (pe_callTy (call_list_K (K := K) rfl) (by rfl) (fr_list T) PyProof.Rows.boot_list (pa_cons (pe_fld (pv 0) rfl) pa_nil)) (pa_cons (pv 1) pa_nil))) rfl)
    (pss_one (ps_fld (pv 0) (Def.call (ok_sums_by T) hr (by decide) (pa_cons (pe_op op_rep (pe_lst (pa_cons pe_int pa_nil)) (pe_callB call_len_seq (by rfl) (fr_len T) PySem.boot_len (pa_cons (pe_fld (pv 0) rfl) pa_nil))) (pa_cons (pv 1) pa_nil))) rfl)))))))), ?_⟩
  obtain ⟨a, B, t, r, c, p, rfl, hE, Y, h⟩ := h
  cases p with
  | true =>
    obtain ⟨dx, ta, sl, al, ll, cl, X, hal, _⟩ := id Y
    have X1 := X.same (newer_in B H)
    refine ⟨_, rfl, _, _, _, _, _, rfl, X1.ins, cl_Held T, na_Held_asked T, hd_asked, _, _, rfl, .inl (SqL.of (newer_in B H _ _ hal)), _, _, rfl, rfl, _, rfl, ?_⟩
    rw [sets_len]
    have := pow16 (mm_le X.wf)
    exact ifT (decide_eq_true (by omega)) (h H (But.refl _ _) Y)
  | false =>
    obtain ⟨dx, ta, sl, al, ll, cl, X, hal⟩ := id Y
    have hal : newer B H al = some (.lst []) := hal
    have X1 := X.same (newer_in B H)
    have hBa : B a = none := (newer_some X.ins).1
    obtain ⟨q1, q2⟩ := pow16 (mm_le X.wf)
    have hm := mm_le X.wf
    obtain ⟨clC, rl, ql, ⟨tdx, hta⟩, _, _, ⟨qa, hql, hqa⟩⟩ := X1.tbl
    refine ⟨_, rfl, _, _, _, _, _, rfl, X1.ins, cl_Held T, na_Held_asked T, hd_asked, _, _, rfl, .inl (SqL.of (newer_in B H _ _ hal)), _, _, rfl, rfl, _, rfl, ?_⟩
    refine ifF (decide_eq_false (by show ¬ (0 : Int) < 0; decide)) ?_
    refine ⟨_, rfl, _, _, _, _, _, rfl, X1.ins, cl_Held T, na_Held_sizes T, hd_sizes, _, _, rfl, .inl (SqL.of X1.sizes), _, _, rfl, rfl, cpow (by rw [sizes_len]; omega), ?_⟩
    dsimp only
    rw [sizes_len, shl1]
    refine ⟨2 ^ mm t, rfl, q1, q2, fun H1 bi s1 hbi f1 => ?_⟩
    have f1 : H1 bi = some (.lst (sets t lb)) := f1
    refine ⟨by show 1 ≤ sizeLine; decide, fun z hz => ⟨_, rfl, _, _, rfl, .inl (SqL.of (same_new hz _ _ f1)), ?_⟩⟩
    rw [sets_len]
    refine ⟨_, _, _, rfl, rfl, upd_same, by omega, by omega, by rw [Int.toNat_natCast]; show 1 * 2 ^ mm t ≤ _; exact small_len (by omega), fun a0 ha0 => ?_⟩
    rw [Int.toNat_natCast, show (List.replicate (2 ^ mm t) [V.int 0]).flatten = sets t (part t 0) by
      rw [show [V.int 0] = [V.int ((0 : Nat) : Int)] from rfl, rep_nat]
      unfold sets
      congr 1
      exact List.map_congr_left fun k _ => (Bk.part_zero t k).symm]
    have s2 : Same H (upd (upd H1 z (.lst [V.int 0])) a0 (.lst (sets t (part t 0)))) := s1.trans ((same_new hz).trans (same_new ha0))
    have s12 : Same H1 (upd (upd H1 z (.lst [V.int 0])) a0 (.lst (sets t (part t 0)))) := (same_new hz).trans (same_new ha0)
    have n0 : H a0 = none := (s1.trans (same_new hz)).free ha0
    refine ⟨_, rfl, _, _, _, _, _, rfl, s2 _ _ X1.ins, cl_Held T, na_Held_sizes T, hd_sizes, _, _, rfl, .inl (SqL.of (s2 _ _ X1.sizes)), _, rfl, by rw [sizes_len]; omega, by rw [sizes_len]; omega, ?_⟩
    rw [sizes_len, Int.toNat_natCast]
    refine for_range (lo := 0) (n := mm t) (fun i σ H' => ∃ ad u v w x y e, σ = [some (.ref a), some (.ref bi), some (.ref ad), u, v, w, x, y, e] ∧ Same H1 H' ∧ H ad = none ∧ H' ad = some (.lst (sets t (part t i)))) ⟨a0, none, none, none, none, none, none, rfl, s12, n0, upd_same⟩ ?_ ?_
    · rintro i σ H2 hi ⟨ad, u, v, w', x, y, e, rfl, s3, hnad, had⟩
      rw [show (0 : Int) + (i : Nat) = ((i : Nat) : Int) by omega]
      have s4 : Same H H2 := s1.trans s3
      refine ⟨_, rfl, _, _, _, _, _, rfl, s4 _ _ X1.ins, cl_Held T, na_Held_table T, hd_table, _, _, _, _, _, rfl, s4 _ _ hta, cl_Table T, na_Table_questions T, tb_questions, _, rfl, ⟨_, SqL.of (s4 _ _ hql)⟩, fun D hD => ?_⟩
      refine lc_it (walk_list (xs := qa.map V.ref)) (fun j H' => Same H2 H' ∧ H' D = some (.lst (natV (((t.asks.take j).filter fun a => a.g == i).map fun a => a.k)))) ⟨same_new hD, upd_same⟩ (fun j H' _ p => SqL.of (p.1 _ _ (s4 _ _ hql))) ?_ ?_
      · rintro j x H3 H4 hj ⟨s5, hD3⟩ ⟨rfl, hx⟩
        rw [List.length_map, hqa.len] at hj
        have hcj : t.asks[j]? = some t.asks[j] := List.getElem?_eq_getElem hj
        obtain ⟨qp, hqp, qdx, hq⟩ := hqa.get hcj
        have hx : x = V.ref qp := by rw [List.getElem?_map, hqp] at hx; exact (Option.some.inj hx).symm
        subst hx
        generalize t.asks[j] = ak at hcj hq
        have hq4 := s5 _ _ (s4 _ _ hq)
        have hb : decide (V.int (ak.g : Nat) = V.int (i : Nat)) = (ak.g == i) := by
          rw [dec_int, Bool.eq_iff_iff, beq_iff_eq, beq_iff_eq]
          constructor
          · intro z; exact Int.ofNat.inj z
          · intro z; rw [z]
        rw [filter_snoc (fun a : Vamvsa.Ask => a.g == i) (fun a => a.k) hcj]
        refine ⟨rfl, _, rfl, _, _, _, _, _, rfl, hq4, cl_Question T, na_Question_grouping T, qu_grouping, _, rfl, rfl, _, rfl, ifB hb (fun b => ?_) fun b => ?_⟩
        · refine ⟨_, rfl, _, _, _, _, _, rfl, hq4, cl_Question T, na_Question_times T, qu_times, _, hD3, ?_, ?_, ?_⟩
          · rw [natV_len, List.length_map]
            have h1 := List.length_filter_le (fun a : Vamvsa.Ask => a.g == i) (t.asks.take j)
            have h2 := List.length_take_le j t.asks
            have h3 := X.wf.wa
            exact small_lt (by omega)
          · exact fun c o z => by rw [upd_ne (ne_of_none z hD)]; exact s5 _ _ z
          · rw [upd_same, if_pos b, natV_append]
            rfl
        · rw [if_neg (by rw [b]; simp)]
          exact ⟨s5, hD3⟩
      rw [List.length_map, hqa.len, List.take_length]
      rintro H3 ⟨s5, hD3⟩
      refine ⟨_, _, rfl, SqL.of (by rw [← natV_ints]; exact hD3), ?_⟩
      rw [sum_cast]
      have s6 : Same H H3 := s4.trans s5
      have s16 : Same H1 H3 := s3.trans s5
      refine ⟨_, rfl, _, _, rfl, rfl, _, rfl, ?_⟩
      have hts : ((t.asks.filter fun a => a.g == i).map fun a => a.k).sum = timesOf t i := rfl
      rw [hts]
      by_cases c0 : 0 < timesOf t i
      · refine ifT (decide_eq_true (by omega)) ?_
        refine ⟨_, rfl, _, rfl, _, rfl, a, t, r, c, false, i, bi, rfl, Y.same ((newer_in B H).trans s6), hi, s16 _ _ f1, fun H4 q s7 hq f7 => ?_⟩
        have f7 : H4 q = some (.lst (sets t fun K => mn t i (memb (mm t) K))) := f7
        have s8 : Same H H4 := s6.trans s7
        refine ⟨_, rfl, _, rfl, ad, q, _, _, rfl, SqL.of (s7 _ _ (s5 _ _ had)), SqL.of f7, fun D2 hD2 => ?_⟩
        refine lc_it (walk_zip (n := 2 ^ mm t) (xs := sets t (part t i)) (ys := sets t fun K => mn t i (memb (mm t) K)) (by rw [sets_len, sets_len, Nat.min_self])) (fun j H' => Same H4 H' ∧ H' D2 = some (.lst (natV ((List.range j).map (part t (i + 1))))))
          ⟨same_new hD2, upd_same⟩ (fun j H' _ p => ⟨SqL.of (p.1 _ _ (s7 _ _ (s5 _ _ had))), SqL.of (p.1 _ _ f7)⟩) ?_ ?_
        · rintro j x0 H5 H6 hj ⟨s9, hD5⟩ ⟨Tp, x1, y1, rfl, hT, rfl, hx, hy⟩
          have hx : x1 = V.int (part t i j : Nat) := Option.some.inj (hx.symm.trans (sets_get hj))
          have hy : y1 = V.int (mn t i (memb (mm t) j) : Nat) := Option.some.inj (hy.symm.trans (sets_get hj))
          subst hx hy
          have hDT : D2 ≠ Tp := fun z => by rw [← z, hD5] at hT; cases hT
          have hml := Bk.mn_le t i (memb (mm t) j)
          have hwr := X.wf.wr
          refine ⟨Tp, _, rfl, SqT.of upd_same, rfl, _, _, rfl, _, _, rfl, rfl, rfl, _, rfl, _, rfl, _, rfl, _, _, rfl, rfl, .inr ⟨by omega, by omega⟩, _, _, rfl, rfl, _, (upd_ne hDT).trans hD5, ?_, ?_, ?_⟩
          · rw [natV_len, List.length_map, List.length_range]
            exact small_lt (by omega)
          · exact fun c o z => by rw [upd_ne (ne_of_none z hD2), upd_ne (ne_of_none (s9 _ _ z) hT)]; exact s9 _ _ z
          · rw [upd_same, range_snoc, natV_append, Bk.part_succ]
            have e : V.int ((part t i j + timesOf t i * mn t i (memb (mm t) j) : Nat) : Int) = V.int ((part t i j : Int) + (timesOf t i : Int) * (mn t i (memb (mm t) j) : Int)) := congrArg V.int (by rw [Int.natCast_add, Int.natCast_mul])
            show _ = some (HO.lst (_ ++ [V.int ((part t i j + timesOf t i * mn t i (memb (mm t) j) : Nat) : Int)]))
            rw [e]
        · rintro H5 ⟨s9, hD5⟩
          exact ⟨D2, _, _, _, _, _, _, rfl, s16.trans (s7.trans s9), s8.free hD2, hD5⟩
      · refine ifF (decide_eq_false (by omega)) ⟨ad, _, _, _, _, _, _, rfl, s16, hnad, ?_⟩
        rw [s5 _ _ had]
        congr 2
        unfold sets
        congr 1
        apply List.map_congr_left
        intro k _
        rw [Bk.part_succ, show timesOf t i = 0 by omega, Nat.zero_mul, Nat.add_zero]
    · rintro σ H2 ⟨ad, u, v, w', x, y, e, rfl, s3, hnad, had⟩
      have hpa : sets t (part t (mm t)) = sets t (asked t) := by
        unfold sets
        congr 1
        apply List.map_congr_left
        intro k _
        exact Bk.part_all (fun a ha => (X.wf.ask a ha).1) k
      rw [hpa] at had
      have s4 : Same H H2 := s1.trans s3
      have i2 := s4 _ _ X1.ins
      have hbi2 := s3 _ _ f1
      have hsl2 := s4 _ _ X1.sizes
      have ne1 : ad ≠ a := ne_of had i2 (by intro z; cases z)
      have ne2 : bi ≠ a := ne_of hbi2 i2 (by intro z; cases z)
      have ne3 : sl ≠ a := ne_of hsl2 i2 (by intro z; cases z)
      refine ⟨_, rfl, _, rfl, _, _, _, _, rfl, i2, cl_Held T, na_Held_asked T, (by show 7 < 1000; decide), ?_⟩
      rw [hd_putA]
      have b5 : But [a] H (upd H2 a (.ins (He.ga K "Held") dx (hdF (.ref ta) (.int (r : Nat)) (.int (c : Nat)) (.ref sl) (.ref ad) (.ref ll) (.ref cl)))) := (But.of_same s4).trans (.put (by simp))
      have i5 : (upd H2 a (.ins (He.ga K "Held") dx (hdF (.ref ta) (.int (r : Nat)) (.int (c : Nat)) (.ref sl) (.ref ad) (.ref ll) (.ref cl)))) a = some (.ins (He.ga K "Held") dx (hdF (.ref ta) (.int (r : Nat)) (.int (c : Nat)) (.ref sl) (.ref ad) (.ref ll) (.ref cl))) := upd_same
      have had5 := (upd_ne (H := H2) (o := .ins (He.ga K "Held") dx (hdF (.ref ta) (.int (r : Nat)) (.int (c : Nat)) (.ref sl) (.ref ad) (.ref ll) (.ref cl))) ne1).trans had
      have hbi5 := (upd_ne (H := H2) (o := .ins (He.ga K "Held") dx (hdF (.ref ta) (.int (r : Nat)) (.int (c : Nat)) (.ref sl) (.ref ad) (.ref ll) (.ref cl))) ne2).trans hbi2
      have hsl5 := (upd_ne (H := H2) (o := .ins (He.ga K "Held") dx (hdF (.ref ta) (.int (r : Nat)) (.int (c : Nat)) (.ref sl) (.ref ad) (.ref ll) (.ref cl))) ne3).trans hsl2
      generalize (upd H2 a (.ins (He.ga K "Held") dx (hdF (.ref ta) (.int (r : Nat)) (.int (c : Nat)) (.ref sl) (.ref ad) (.ref ll) (.ref cl)))) = H5 at b5 i5 had5 hbi5 hsl5 ⊢
      refine ⟨_, rfl, _, _, _, _, _, rfl, i5, cl_Held T, na_Held_sizes T, hd_sizes, _, _, rfl, .inl (SqL.of hsl5), fun lc hlc => ⟨_, rfl, lc, bi, sz t, mm t, rfl, hm, upd_same, same_new hlc _ _ hbi5, fun H6 lq s6 hlq f6 => ?_⟩⟩
      have f6 : H6 lq = some (.lst (sets t (lines t))) := f6
      have s56 : Same H5 H6 := (same_new hlc).trans s6
      have i6 := s56 _ _ i5
      have hlqn : H5 lq = none := (same_new hlc).free hlq
      refine ⟨_, rfl, _, _, _, _, rfl, i6, cl_Held T, na_Held_lines T, (by show 7 < 1000; decide), ?_⟩
      rw [hd_putL]
      have ne4 : lq ≠ a := ne_of f6 i6 (by intro z; cases z)
      have b7 : But [a] H (upd H6 a (.ins (He.ga K "Held") dx (hdF (.ref ta) (.int (r : Nat)) (.int (c : Nat)) (.ref sl) (.ref ad) (.ref lq) (.ref cl)))) := (b5.trans (.of_same s56)).trans (.put (by simp))
      have i7 : (upd H6 a (.ins (He.ga K "Held") dx (hdF (.ref ta) (.int (r : Nat)) (.int (c : Nat)) (.ref sl) (.ref ad) (.ref lq) (.ref cl)))) a = some (.ins (He.ga K "Held") dx (hdF (.ref ta) (.int (r : Nat)) (.int (c : Nat)) (.ref sl) (.ref ad) (.ref lq) (.ref cl))) := upd_same
      have had7 := (upd_ne (H := H6) (o := .ins (He.ga K "Held") dx (hdF (.ref ta) (.int (r : Nat)) (.int (c : Nat)) (.ref sl) (.ref ad) (.ref lq) (.ref cl))) ne1).trans (s56 _ _ had5)
      have hbi7 := (upd_ne (H := H6) (o := .ins (He.ga K "Held") dx (hdF (.ref ta) (.int (r : Nat)) (.int (c : Nat)) (.ref sl) (.ref ad) (.ref lq) (.ref cl))) ne2).trans (s56 _ _ hbi5)
      have hsl7 := (upd_ne (H := H6) (o := .ins (He.ga K "Held") dx (hdF (.ref ta) (.int (r : Nat)) (.int (c : Nat)) (.ref sl) (.ref ad) (.ref lq) (.ref cl))) ne3).trans (s56 _ _ hsl5)
      have hlq7 := (upd_ne (H := H6) (o := .ins (He.ga K "Held") dx (hdF (.ref ta) (.int (r : Nat)) (.int (c : Nat)) (.ref sl) (.ref ad) (.ref lq) (.ref cl))) ne4).trans f6
      generalize (upd H6 a (.ins (He.ga K "Held") dx (hdF (.ref ta) (.int (r : Nat)) (.int (c : Nat)) (.ref sl) (.ref ad) (.ref lq) (.ref cl)))) = H7 at b7 i7 had7 hbi7 hsl7 hlq7 ⊢
      refine ⟨by show 1 ≤ sizeLine; decide, fun o1 ho1 => ?_⟩
      have so1 : Same H7 (upd H7 o1 (.lst [V.int 1])) := same_new ho1
      refine ⟨_, rfl, _, _, _, _, _, rfl, so1 _ _ i7, cl_Held T, na_Held_sizes T, hd_sizes, _, _, rfl, .inl (SqL.of (so1 _ _ hsl7)), ?_⟩
      rw [sizes_len]
      refine ⟨_, _, _, rfl, rfl, upd_same, by omega, by omega, by rw [Int.toNat_natCast]; show 1 * mm t ≤ _; exact small_len (by omega), fun o2 ho2 => ?_⟩
      rw [Int.toNat_natCast, show (List.replicate (mm t) [V.int 1]).flatten = natV ((List.range (mm t)).map fun _ => 1) from rep_nat (mm t) 1]
      refine ⟨_, rfl, o2, bi, (fun _ => 1), mm t, rfl, hm, upd_same, same_new ho2 _ _ (so1 _ _ hbi7), fun H8 cq s8 hcq f8 => ?_⟩
      have f8 : H8 cq = some (.lst (sets t (cnt t))) := by
        rw [f8]
        unfold sets
        congr 2
        exact congrArg natV (List.map_congr_left fun k _ => (Bk.cnt_sm t k).symm)
      have s78 : Same H7 H8 := so1.trans ((same_new ho2).trans s8)
      have i8 := s78 _ _ i7
      have ne5 : cq ≠ a := ne_of f8 i8 (by intro z; cases z)
      refine ⟨_, rfl, _, _, _, _, rfl, i8, cl_Held T, na_Held_counts T, (by show 7 < 1000; decide), ?_⟩
      rw [hd_putC]
      have b9 : But [a] H (upd H8 a (.ins (He.ga K "Held") dx (hdF (.ref ta) (.int (r : Nat)) (.int (c : Nat)) (.ref sl) (.ref ad) (.ref lq) (.ref cq)))) := (b7.trans (.of_same s78)).trans (.put (by simp))
      have free : ∀ {x : Addr} {Hx : Hp}, But [a] H Hx → Hx x = none → x ≠ a → B x = none := fun {x Hx} bx hx nx => hE x (by cases q : H x with | none => rfl | some o => rw [bx x o q (by simpa using nx)] at hx; cases hx)
      refine h _ b9 ⟨dx, ta, sl, ad, lq, cq, ⟨newer_of hBa upd_same, X.tb.same (nw_up b9), ?_, X.wf⟩, newer_of (hE ad hnad) ?_, newer_of (free b5 hlqn ne4) ?_, newer_of (free b7 ((so1.trans (same_new ho2)).free hcq) ne5) ?_⟩
      · obtain ⟨z1, z2⟩ := newer_some X.sizes
        exact newer_of z1 (b9 _ _ z2 (by simpa using ne3))
      · rw [upd_ne ne1]; exact s78 _ _ had7
      · rw [upd_ne ne4]; exact s78 _ _ hlq7
      · rw [upd_ne ne5]; exact f8
end
end Bw
set_option Elab.async false
set_option linter.all false
set_option maxRecDepth 100000
set_option maxHeartbeats 4000000
namespace Bw
open PySem PySem.Spec PyProof.Rows L2
section
variable {P : Program} {w : World} {K : PySem.W.Frag} {mg : Str → Option Value} {base : Heap}
open Bk (lb memb sm sz mm asked lines cnt mn rd cf)
def sp_changes_cost (K : PySem.W.Frag) : Sp := fun vs H Q _ => ∃ (h : Addr) (t : Vamvsa.Table) (r c k c' : Nat), vs = [.ref h, .int (k : Nat), .int (c' : Nat)] ∧ HdAt K H h t r c true ∧ k < 2 ^ mm t ∧ c' ≤ 1000 ∧ Q (.int (2 * c' * cnt t k : Nat)) H
theorem sc_changes_cost : FnScope ["held", "kept", "changes"] ["held", "kept", "changes"] (defScope (top 11)) := ⟨rfl, rfl, rfl, by decide +kernel, rfl, by decide +kernel, by decide +kernel⟩
theorem ok_changes_cost (T : Txt K mg) : Def P w K mg base CX0 1 "changes_cost" ["held", "kept", "changes"] (sp_changes_cost K) := by
  obtain ⟨fd, F⟩ := fd_changes_cost T
  refine Def.mk' F sc_changes_cost (gl_changes_cost T) (fun vs H Q E h => by obtain ⟨_, _, _, _, _, _, rfl, _⟩ := h; rfl) (fun _ _ _ _ _ _ us hl => match us, hl with | [_, _, _], _ => rfl) fun cdv A outer s H vs Q E hr h => ?_
  refine ⟨_, PSs.nox (pss_one (ps_ret (pe_op op_mul (pe_op op_mul (pe_gi (in_READ_AND_WRITTEN T)) (pv 2)) (pe_ix ix_list (pe_fld (pv 0) rfl) (pv 1) (fun _ _ => rfl))))), ?_⟩
  obtain ⟨a, t, r, c, k, c', rfl, ⟨dx, ta, sl, al, ll, cl, X, hal, hll, hcl⟩, hk, hc, h⟩ := h
  refine ⟨_, rfl, _, _, rfl, rfl, .inl ⟨by omega, by omega⟩, _, rfl, _, _, _, _, _, rfl, X.ins, cl_Held T, na_Held_counts T, hd_counts, _, rfl, _, _, _, _, rfl, rfl, SqL.of hcl, atI_nat (sets_get hk), _, _, rfl, rfl, .inl ⟨by omega, by omega⟩, ?_⟩
  have e : ((2 * c' * cnt t k : Nat) : Int) = 2 * (c' : Int) * (cnt t k : Int) := by rw [Int.natCast_mul, Int.natCast_mul]; rfl
  rw [e] at h
  exact h
def sp_cost_of (K : PySem.W.Frag) : Sp := fun vs H Q _ => ∃ (h : Addr) (t : Vamvsa.Table) (r c k c' : Nat), vs = [.ref h, .int (k : Nat), .int (c' : Nat)] ∧ HdAt K H h t r c true ∧ k < 2 ^ mm t ∧ c' ≤ 1000 ∧ Q (.int (Bk.cost t c' k : Nat)) H
theorem sc_cost_of : FnScope ["held", "kept", "changes"] ["held", "kept", "changes"] (defScope (top 12)) := ⟨rfl, rfl, rfl, by decide +kernel, rfl, by decide +kernel, by decide +kernel⟩
theorem ok_cost_of (T : Txt K mg) : Def P w K mg base CX0 2 "cost_of" ["held", "kept", "changes"] (sp_cost_of K) := by
  obtain ⟨fd, F⟩ := fd_cost_of T
  refine Def.mk' F sc_cost_of (gl_cost_of T) (fun vs H Q E h => by obtain ⟨_, _, _, _, _, _, rfl, _⟩ := h; rfl) (fun _ _ _ _ _ _ us hl => match us, hl with | [_, _, _], _ => rfl) fun cdv A outer s H vs Q E hr h => ?_
  refine ⟨_, PSs.nox (pss_one (ps_ret (pe_op op_add (pe_ix ix_list (pe_fld (pv 0) rfl) (pv 1) (fun _ _ => rfl)) (Def.call (ok_changes_cost T) hr (by decide) (pa_cons (pv 0) (pa_cons (pv 1) (pa_cons (pv 2) pa_nil))))))), ?_⟩
  obtain ⟨a, t, r, c, k, c', rfl, Y, hk, hc, h⟩ := h
  obtain ⟨dx, ta, sl, al, ll, cl, X, hal, hll, hcl⟩ := id Y
  refine ⟨_, rfl, _, _, _, _, _, rfl, X.ins, cl_Held T, na_Held_asked T, hd_asked, _, rfl, _, _, _, _, rfl, rfl, SqL.of hal, atI_nat (sets_get hk), _, rfl, _, rfl, _, rfl, a, t, r, c, k, c', rfl, Y, hk, hc, _, _, rfl, rfl, ?_⟩
  have e : ((Bk.cost t c' k : Nat) : Int) = (asked t k : Int) + ((2 * c' * cnt t k : Nat) : Int) := Int.natCast_add _ _
  rw [e] at h
  exact h
theorem flt_succ (p : Nat → Bool) (i : Nat) : (List.range (i + 1)).filter p = if p i = true then (List.range i).filter p ++ [i] else (List.range i).filter p := by
  rw [List.range_succ, List.filter_append]
  cases h : p i with
  | true => rw [List.filter_cons_of_pos h, if_pos rfl]; rfl
  | false => rw [List.filter_cons_of_neg (by simp [h]), if_neg Bool.false_ne_true]; simp
theorem flt_small (p : Nat → Bool) {i : Nat} (h : i ≤ 1000) : (natV ((List.range i).filter p)).length < sizeLine := by
  rw [natV_len]
  have := List.length_filter_le p (List.range i)
  rw [List.length_range] at this
  exact small_lt (by omega)
def sp_members (K : PySem.W.Frag) : Sp := fun vs H Q _ => ∃ (h : Addr) (t : Vamvsa.Table) (r c : Nat) (p : Bool) (k : Nat), vs = [.ref h, .int (k : Nat)] ∧ HdAt K H h t r c p ∧ NewN H Q (memb (mm t) k)
theorem sc_members : FnScope ["held", "kept", "grouping"] ["held", "kept"] (defScope (top 13)) := ⟨rfl, rfl, rfl, by decide +kernel, rfl, by decide +kernel, by decide +kernel⟩
theorem ok_members (T : Txt K mg) : Def P w K mg base CX0 1 "members" ["held", "kept"] (sp_members K) := by
  obtain ⟨fd, F⟩ := fd_members T
  refine Def.mk' F sc_members (gl_members T) (fun vs H Q E h => by obtain ⟨_, _, _, _, _, _, rfl, _⟩ := h; rfl) (fun _ _ _ _ _ _ us hl => match us, hl with | [_, _], _ => rfl) fun cdv A outer s H vs Q E hr h => ?_
  refine ⟨_, PSs.nox (pss_one (ps_ret (pe_lc (own := [("grouping", 2)]) (g := gName 2) rfl sc_members.nd (pi_range1 rfl (fr_range T) (pa_cons (pe_callB call_len_seq (by rfl) (fr_len T) PySem.boot_len (pa_cons (pe_fld (pv 0) rfl) pa_nil)) pa_nil)) (blkOk_by (own := [("grouping", 2)]) (N := ["held", "kept", "grouping"]) (sc := defScope (top 13)) (by decide +kernel)) (fun _ _ _ _ _ => pg_name (i := 2) sc_members.nd rfl (Or.inl rfl)) (fun _ _ _ _ _ => pts_one (pt_cmpR op_eq (pe_op op_and (pe_op op_shr (pv 1) (pv 2)) pe_int) pe_int (nomark _))) (fun _ _ _ _ _ => pv 2)))), ?_⟩
  obtain ⟨a, t, r, c, p, k, rfl, ⟨dx, ta, sl, al, ll, cl, X, _⟩, h⟩ := h
  have hm := mm_le X.wf
  refine ⟨_, rfl, _, _, _, _, _, rfl, X.ins, cl_Held T, na_Held_sizes T, hd_sizes, _, _, rfl, .inl (SqL.of X.sizes), _, rfl, by rw [sizes_len]; omega, by rw [sizes_len]; omega, fun D hD => ?_⟩
  rw [sizes_len, Int.toNat_natCast]
  refine lc_it (walk_range (lo := 0) (n := mm t)) (fun i H' => Same H H' ∧ H' D = some (.lst (natV ((List.range i).filter fun g => k.testBit g)))) ⟨same_new hD, upd_same⟩ (fun _ _ _ _ => trivial) ?_ ?_
  · rintro i x H1 H2 hi ⟨s1, hD1⟩ ⟨rfl, hx⟩
    have hx : x = V.int ((i : Nat) : Int) := hx.trans (congrArg V.int (by omega))
    subst hx
    rw [flt_succ]
    refine ⟨rfl, _, rfl, _, rfl, _, _, rfl, rfl, Int.natCast_nonneg _, _, _, rfl, rfl, rfl, _, rfl, ifB (bit_is k i) (fun b => ?_) fun b => ?_⟩
    · rw [if_pos b]
      refine ⟨_, rfl, _, hD1, flt_small _ (by omega), ?_, ?_⟩
      · exact fun c o z => by rw [upd_ne (ne_of_none z hD)]; exact s1 _ _ z
      · rw [upd_same, natV_append]
        rfl
    · rw [if_neg (by rw [b]; simp)]
      exact ⟨s1, hD1⟩
  · rintro H1 ⟨s1, hD1⟩
    exact h H1 D s1 hD hD1
end
end Bw
set_option Elab.async false
set_option linter.all false
set_option maxRecDepth 100000
set_option maxHeartbeats 4000000
namespace Bw
open PySem PySem.Spec PyProof.Rows L2
section
variable {P : Program} {w : World} {K : PySem.W.Frag} {mg : Str → Option Value} {base : Heap}
open Bk (lb memb sm sz mm asked lines cnt mn rd cf)
def sp_best_of (K : PySem.W.Frag) : Sp := fun vs H Q _ => ∃ (h : Addr) (t : Vamvsa.Table) (r c c' ro mo : Nat), vs = [.ref h, .int (c' : Nat), .int (ro : Nat), .int (mo : Nat)] ∧ HdAt K H h t r c true ∧ c' ≤ 1000 ∧ Q (.int (Bk.bo t c' ro mo (2 ^ mm t - 1) : Nat)) H
theorem sc_best_of : FnScope ["held", "changes", "room", "most", "best", "least", "kept", "cost"] ["held", "changes", "room", "most"] (defScope (top 14)) := ⟨rfl, rfl, rfl, by decide +kernel, rfl, by decide +kernel, by decide +kernel⟩
theorem ok_best_of (T : Txt K mg) : Def P w K mg base CX0 3 "best_of" ["held", "changes", "room", "most"] (sp_best_of K) := by
  obtain ⟨fd, F⟩ := fd_best_of T
  refine Def.mk' F sc_best_of (gl_best_of T) (fun vs H Q E h => by obtain ⟨_, _, _, _, _, _, _, rfl, _⟩ := h; rfl) (fun _ _ _ _ _ _ us hl => match us, hl with | [_, _, _, _], _ => rfl) fun cdv A outer s H vs Q E hr h => ?_
  refine ⟨_, PSs.nox (pss_cons (ps_set (i := 4) sc_best_of.nd rfl (Or.inl rfl) pe_int)
    (pss_cons (ps_set (i := 5) sc_best_of.nd rfl (Or.inl rfl) (Def.call (ok_cost_of T) hr (by decide) (pa_cons (pv 0) (pa_cons pe_int (pa_cons (pv 1) pa_nil)))))
    (pss_cons (ps_for PassesOwn.never rfl (pi_range2 rfl (fr_range T) (pa_cons pe_int (pa_cons (pe_callB call_len_seq (by rfl) (fr_len T) PySem.boot_len (pa_cons (pe_fld (pv 0) rfl) pa_nil)) pa_nil))) (pg_name (i := 6) sc_best_of.nd rfl (Or.inl rfl))
      (pss_one (ps_if (PW.pt (pw_and (pt_cmpR op_le (pe_ix ix_list (pe_fld (pv 0) rfl) (pv 6) (fun _ _ => rfl)) (pv 2) (nomark _)) (pw_and1 (pt_cmpR op_le (pe_ix ix_list (pe_fld (pv 0) rfl) (pv 6) (fun _ _ => rfl)) (pv 3) (nomark _)))))
        (pss_cons (ps_set (i := 7) sc_best_of.nd rfl (Or.inl rfl) (Def.call (ok_cost_of T) hr (by decide) (pa_cons (pv 0) (pa_cons (pv 6) (pa_cons (pv 1) pa_nil)))))
        (pss_one (ps_if (PW.pt (pw_or (pt_cmpR op_lt (pv 7) (pv 5) (nomark _)) (pw_or1 (PW.pt (pw_and (pt_cmpR op_eq (pv 7) (pv 5) (nomark _)) (pw_and1 (pt_cmpR op_lt (pe_ix ix_list (pe_fld (pv 0) rfl) (pv 6) (fun _ _ => rfl)) (pe_ix ix_list (pe_fld (pv 0) rfl) (pv 4) (fun _ _ => rfl)) (nomark _))))))))
          (pss_cons (ps_set (i := 4) sc_best_of.nd rfl (Or.inl rfl) (pv 6))
          (pss_one (ps_set (i := 5) sc_best_of.nd rfl (Or.inl rfl) (pv 7))))
          (pss_nil))))
        (pss_nil))))
    (pss_one (ps_ret (pv 4)))))), ?_⟩
  obtain ⟨a, t, r, c, c', ro, mo, rfl, Y, hc, h⟩ := h
  obtain ⟨dx, ta, sl, al, ll, cl, X, hal, hll, hcl⟩ := id Y
  obtain ⟨q1, q2⟩ := pow16 (mm_le X.wf)
  refine ⟨_, rfl, _, rfl, a, t, r, c, 0, c', rfl, Y, q1, hc, ?_⟩
  refine ⟨_, rfl, _, _, _, _, _, rfl, X.ins, cl_Held T, na_Held_asked T, hd_asked, _, _, rfl, .inl (SqL.of hal), ?_⟩
  rw [sets_len]
  refine ⟨_, _, rfl, ⟨by decide, by decide, by omega, by omega⟩, ?_⟩
  have hn : (((2 ^ mm t : Nat) : Int) - 1).toNat = 2 ^ mm t - 1 := by omega
  rw [hn]
  refine for_range (lo := 1) (n := 2 ^ mm t - 1) (fun i σ H' => ∃ u v, σ = [some (.ref a), some (.int (c' : Nat)), some (.int (ro : Nat)), some (.int (mo : Nat)), some (.int (Bk.bo t c' ro mo i : Nat)), some (.int (Bk.cost t c' (Bk.bo t c' ro mo i) : Nat)), u, v] ∧ H' = H) ⟨_, _, rfl, rfl⟩ ?_ ?_
  · rintro i σ H1 hi ⟨u, v, rfl, rfl⟩
    rw [show (1 : Int) + (i : Nat) = ((i + 1 : Nat) : Int) by omega]
    have hk : i + 1 < 2 ^ mm t := by omega
    have hb := Bk.bo_lt (t := t) (c := c') (r := ro) (m := mo) i
    generalize hB : Bk.bo t c' ro mo i = b at hb
    have hbk : b < 2 ^ mm t := by omega
    have hs : Bk.bo t c' ro mo (i + 1) = if (lines t (i + 1) ≤ ro ∧ cnt t (i + 1) ≤ mo) ∧ Bk.lt2 t c' (i + 1) b then i + 1 else b := by rw [← hB]; rfl
    refine ⟨_, rfl, _, _, _, _, _, rfl, X.ins, cl_Held T, na_Held_lines T, hd_lines, _, rfl, _, _, _, _, rfl, rfl, SqL.of hll, atI_nat (sets_get hk), _, rfl, _, _, rfl, rfl, _, rfl, ?_⟩
    by_cases h1 : lines t (i + 1) ≤ ro
    · refine ifT (decide_eq_true (by omega)) ⟨_, rfl, _, _, _, _, _, rfl, X.ins, cl_Held T, na_Held_counts T, hd_counts, _, rfl, _, _, _, _, rfl, rfl, SqL.of hcl, atI_nat (sets_get hk), _, rfl, _, _, rfl, rfl, _, rfl, ?_⟩
      by_cases h2 : cnt t (i + 1) ≤ mo
      · refine ifT (decide_eq_true (by omega)) ⟨_, rfl, _, rfl, _, rfl, a, t, r, c, i + 1, c', rfl, Y, hk, hc, _, rfl, _, rfl, _, _, rfl, rfl, _, rfl, ?_⟩
        by_cases h3 : Bk.cost t c' (i + 1) < Bk.cost t c' b
        · rw [if_pos ⟨⟨h1, h2⟩, .inl h3⟩] at hs
          rw [hs]
          exact ifT (decide_eq_true (by omega)) (ifT rfl ⟨_, rfl, _, rfl, _, _, rfl, rfl⟩)
        · refine ifF (decide_eq_false (by omega)) ⟨_, rfl, _, rfl, rfl, _, rfl, ?_⟩
          by_cases h4 : Bk.cost t c' (i + 1) = Bk.cost t c' b
          · refine ifT (decide_eq_true (congrArg V.int (by omega))) ⟨_, rfl, _, _, _, _, _, rfl, X.ins, cl_Held T, na_Held_lines T, hd_lines, _, rfl, _, _, _, _, rfl, rfl, SqL.of hll, atI_nat (sets_get hk),
              _, rfl, _, _, _, _, _, rfl, X.ins, cl_Held T, na_Held_lines T, hd_lines, _, rfl, _, _, _, _, rfl, rfl, SqL.of hll, atI_nat (sets_get hbk), _, _, rfl, rfl, _, rfl, ?_⟩
            by_cases h5 : lines t (i + 1) < lines t b
            · rw [if_pos ⟨⟨h1, h2⟩, .inr ⟨h4, h5⟩⟩] at hs
              rw [hs]
              exact ifT (decide_eq_true (by omega)) ⟨_, rfl, _, rfl, _, _, rfl, rfl⟩
            · rw [if_neg (by rintro ⟨_, q | q⟩; exact h3 q; exact h5 q.2)] at hs
              rw [hs]
              exact ifF (decide_eq_false (by omega)) ⟨_, _, rfl, rfl⟩
          · rw [if_neg (by rintro ⟨_, q | q⟩; exact h3 q; exact h4 q.1)] at hs
            rw [hs]
            exact ifF (decide_eq_false fun z => h4 (by have z := V.int.inj z; omega)) (ifF rfl ⟨_, _, rfl, rfl⟩)
      · rw [if_neg fun q => h2 q.1.2] at hs
        rw [hs]
        exact ifF (decide_eq_false (by omega)) ⟨_, _, rfl, rfl⟩
    · rw [if_neg fun q => h1 q.1.1] at hs
      rw [hs]
      exact ifF (decide_eq_false (by omega)) (ifF rfl ⟨_, _, rfl, rfl⟩)
  · rintro σ H1 ⟨u, v, rfl, rfl⟩
    exact ⟨_, rfl, h⟩
def optV : Option Nat → V
  | none => .non
  | some g => .int (g : Nat)
open Bk (nsL)
theorem nsF_succ (t : Vamvsa.Table) (c r k g : Nat) : Bk.nsF t c r k (g + 1) = if (k.testBit g = false ∧ lines t (k ||| 2 ^ g) ≤ r) ∧ Bk.cost t c (k ||| 2 ^ g) < nsL t c k (Bk.nsF t c r k g) then some g else Bk.nsF t c r k g := rfl
def sp_next_step (K : PySem.W.Frag) : Sp := fun vs H Q _ => ∃ (h : Addr) (t : Vamvsa.Table) (r c k c' ro : Nat), vs = [.ref h, .int (k : Nat), .int (c' : Nat), .int (ro : Nat)] ∧ HdAt K H h t r c true ∧ k < 2 ^ mm t ∧ c' ≤ 1000 ∧ Q (optV (Bk.nxt t c' ro k)) H
theorem sc_next_step : FnScope ["held", "kept", "changes", "room", "found", "least", "grouping", "more"] ["held", "kept", "changes", "room"] (defScope (top 15)) := ⟨rfl, rfl, rfl, by decide +kernel, rfl, by decide +kernel, by decide +kernel⟩
theorem ok_next_step (T : Txt K mg) : Def P w K mg base CX0 3 "next_step" ["held", "kept", "changes", "room"] (sp_next_step K) := by
  obtain ⟨fd, F⟩ := fd_next_step T
  refine Def.mk' F sc_next_step (gl_next_step T) (fun vs H Q E h => by obtain ⟨_, _, _, _, _, _, _, rfl, _⟩ := h; rfl) (fun _ _ _ _ _ _ us hl => match us, hl with | [_, _, _, _], _ => rfl) fun cdv A outer s H vs Q E hr h => ?_
  refine ⟨_, PSs.nox (pss_cons (ps_set (i := 4) sc_next_step.nd rfl (Or.inl rfl) pe_non)
    (pss_cons (ps_set (i := 5) sc_next_step.nd rfl (Or.inl rfl) (Def.call (ok_cost_of T) hr (by decide) (pa_cons (pv 0) (pa_cons (pv 1) (pa_cons (pv 2) pa_nil)))))
    (pss_cons (ps_for PassesOwn.never rfl (pi_range1 rfl (fr_range T) (pa_cons (pe_callB call_len_seq (by rfl) (fr_len T) PySem.boot_len (pa_cons (pe_fld (pv 0) rfl) pa_nil)) pa_nil)) (pg_name (i := 6) sc_next_step.nd rfl (Or.inl rfl))
      (pss_cons (ps_set (i := 7) sc_next_step.nd rfl (Or.inl rfl) (pe_op op_or (pv 1) (pe_op op_shl pe_int (pv 6))))
      (pss_one (ps_if (PW.pt (pw_and (pt_cmpR op_ne (pv 7) (pv 1) (nomark _)) (pw_and (pt_cmpR op_le (pe_ix ix_list (pe_fld (pv 0) rfl) (pv 7) (fun _ _ => rfl)) (pv 3) (nomark _)) (pw_and1 (pt_cmpR op_lt (Def.call (ok_cost_of T) hr (by decide) (pa_cons (pv 0) (pa_cons (pv 7) (pa_cons (pv 2) pa_nil)))) (pv 5) (nomark _))))))
        (pss_cons (ps_set (i := 4) sc_next_step.nd rfl (Or.inl rfl) (pv 6))
        (pss_one (ps_set (i := 5) sc_next_step.nd rfl (Or.inl rfl) (Def.call (ok_cost_of T) hr (by decide) (pa_cons (pv 0) (pa_cons (pv 7) (pa_cons (pv 2) pa_nil)))))))
        (pss_nil)))))
    (pss_one (ps_ret (pv 4)))))), ?_⟩
  obtain ⟨a, t, r, c, k, c', ro, rfl, Y, hk, hc, h⟩ := h
  obtain ⟨dx, ta, sl, al, ll, cl, X, hal, hll, hcl⟩ := id Y
  have hm := mm_le X.wf
  refine ⟨_, rfl, _, rfl, _, rfl, a, t, r, c, k, c', rfl, Y, hk, hc, ?_⟩
  refine ⟨_, rfl, _, _, _, _, _, rfl, X.ins, cl_Held T, na_Held_sizes T, hd_sizes, _, _, rfl, .inl (SqL.of X.sizes), _, rfl, by rw [sizes_len]; omega, by rw [sizes_len]; omega, ?_⟩
  rw [sizes_len, Int.toNat_natCast]
  refine for_range (lo := 0) (n := mm t) (fun i σ H' => ∃ u v, σ = [some (.ref a), some (.int (k : Nat)), some (.int (c' : Nat)), some (.int (ro : Nat)), some (optV (Bk.nsF t c' ro k i)), some (.int (nsL t c' k (Bk.nsF t c' ro k i) : Nat)), u, v] ∧ H' = H) ⟨_, _, rfl, rfl⟩ ?_ ?_
  · rintro i σ H1 hi ⟨u, v, rfl, rfl⟩
    rw [show (0 : Int) + (i : Nat) = ((i : Nat) : Int) by omega]
    have hs := nsF_succ t c' ro k i
    refine ⟨_, rfl, _, rfl, _, _, rfl, rfl, cpow (by omega), _, _, rfl, rfl, ?_⟩
    dsimp only
    rw [shl1, or_nat]
    have hk' : k ||| 2 ^ i < 2 ^ mm t := Bk.or_lt hk hi
    have no : Bk.nsF t c' ro k (i + 1) = Bk.nsF t c' ro k i → ∃ u v, [some (V.ref a), some (.int (k : Nat)), some (.int (c' : Nat)), some (.int (ro : Nat)), some (optV (Bk.nsF t c' ro k i)), some (.int (nsL t c' k (Bk.nsF t c' ro k i) : Nat)), some (.int (i : Nat)), some (.int (k ||| 2 ^ i : Nat))] =
        [some (V.ref a), some (.int (k : Nat)), some (.int (c' : Nat)), some (.int (ro : Nat)), some (optV (Bk.nsF t c' ro k (i + 1))), some (.int (nsL t c' k (Bk.nsF t c' ro k (i + 1)) : Nat)), u, v] ∧ H1 = H1 := fun e => by
      rw [e]
      exact ⟨_, _, rfl, rfl⟩
    refine ⟨_, rfl, _, rfl, rfl, _, rfl, ?_⟩
    by_cases h1 : k ||| 2 ^ i = k
    · have hb := Bk.or_eq_self.mp h1
      rw [if_neg fun q => by rw [q.1.1] at hb; cases hb] at hs
      exact ifF (by rw [h1]; simp) (ifF rfl (no hs))
    · have hb : k.testBit i = false := by
        cases e : k.testBit i with
        | false => rfl
        | true => exact absurd (Bk.or_eq_self.mpr e) h1
      refine ifT (by rw [decide_eq_false (fun z => h1 (by have z := V.int.inj z; omega))]; rfl) ⟨_, rfl, _, _, _, _, _, rfl, X.ins, cl_Held T, na_Held_lines T, hd_lines, _, rfl, _, _, _, _, rfl, rfl, SqL.of hll, atI_nat (sets_get hk'), _, rfl, _, _, rfl, rfl, _, rfl, ?_⟩
      by_cases h2 : lines t (k ||| 2 ^ i) ≤ ro
      · refine ifT (decide_eq_true (by omega)) ⟨_, rfl, _, rfl, _, rfl, a, t, r, c, k ||| 2 ^ i, c', rfl, Y, hk', hc, _, rfl, _, _, rfl, rfl, _, rfl, ?_⟩
        by_cases h3 : Bk.cost t c' (k ||| 2 ^ i) < nsL t c' k (Bk.nsF t c' ro k i)
        · rw [if_pos ⟨⟨hb, h2⟩, h3⟩] at hs
          rw [hs]
          exact ifT (decide_eq_true (by omega)) ⟨_, rfl, _, rfl, _, rfl, _, rfl, a, t, r, c, k ||| 2 ^ i, c', rfl, Y, hk', hc, _, _, rfl, rfl⟩
        · rw [if_neg fun q => h3 q.2] at hs
          exact ifF (decide_eq_false (by omega)) (no hs)
      · rw [if_neg fun q => h2 q.1.2] at hs
        exact ifF (decide_eq_false (by omega)) (ifF rfl (no hs))
  · rintro σ H1 ⟨u, v, rfl, rfl⟩
    exact ⟨_, rfl, h⟩
end
end Bw
set_option Elab.async false
set_option linter.all false
set_option maxRecDepth 100000
set_option maxHeartbeats 4000000
namespace Bw
open PySem PySem.Spec PyProof.Rows L2
section
variable {P : Program} {w : World} {K : PySem.W.Frag} {mg : Str → Option Value} {base : Heap}
open Bk (lb memb sm sz mm asked lines cnt mn rd cf)
theorem optV_not (o : Option Nat) : (!decide (optV o = V.non)) = o.isSome := by
  cases o with
  | none => rfl
  | some g => rfl
theorem sbs_stop {t : Vamvsa.Table} {c r k : Nat} (h : Bk.nxt t c r k = none) : ∀ n, Bk.sbs t c r n k = []
  | 0 => rfl
  | n + 1 => by rw [Bk.sbs, h]
def sp_step_by_step (K : PySem.W.Frag) : Sp := fun vs H Q _ => ∃ (h : Addr) (t : Vamvsa.Table) (r c c' ro mo : Nat), vs = [.ref h, .int (c' : Nat), .int (ro : Nat), .int (mo : Nat)] ∧ HdAt K H h t r c true ∧ c' ≤ 1000 ∧ mo ≤ 1000 ∧ NewN H Q (Bk.sbs t c' ro mo 0)
theorem sc_step_by_step : FnScope ["held", "changes", "room", "most", "found", "kept", "grouping"] ["held", "changes", "room", "most"] (defScope (top 16)) := ⟨rfl, rfl, rfl, by decide +kernel, rfl, by decide +kernel, by decide +kernel⟩
theorem ok_step_by_step (T : Txt K mg) : Def P w K mg base CX0 4 "step_by_step" ["held", "changes", "room", "most"] (sp_step_by_step K) := by
  obtain ⟨fd, F⟩ := fd_step_by_step T
  refine Def.mk' F sc_step_by_step (gl_step_by_step T) (fun vs H Q E h => by obtain ⟨_, _, _, _, _, _, _, rfl, _⟩ := h; rfl) (fun _ _ _ _ _ _ us hl => match us, hl with | [_, _, _, _], _ => rfl) fun cdv A outer s H vs Q E hr h => ?_
  refine ⟨_, PSs.nox (pss_cons (ps_set (i := 4) sc_step_by_step.nd rfl (Or.inl rfl) (pe_lst pa_nil))
    (pss_cons (ps_set (i := 5) sc_step_by_step.nd rfl (Or.inl rfl) pe_int)
    (pss_cons (ps_set (i := 6) sc_step_by_step.nd rfl (Or.inl rfl) (Def.call (ok_next_step T) hr (by decide) (pa_cons (pv 0) (pa_cons (pv 5) (pa_cons (pv 1) (pa_cons (pv 2) pa_nil))))))
    (pss_cons (ps_while PassesOwn.never (PW.pt (pw_and (pt_cmpR op_notN (pv 6) pe_non (nomark _)) (pw_and1 (pt_cmpR op_lt (pe_callB call_len_seq (by rfl) (fr_len T) PySem.boot_len (pa_cons (pv 4) pa_nil)) (pv 3) (nomark _)))))
      (pss_cons (ps_expr (pe_bm PySem.F.plainAttrs_list PySem.F.slot_list_append PySem.F.type_list_append mt_append (pv 4) (pa_cons (pv 6) pa_nil)))
      (pss_cons (ps_set (i := 5) sc_step_by_step.nd rfl (Or.inl rfl) (pe_op op_or (pv 5) (pe_op op_shl pe_int (pv 6))))
      (pss_one (ps_set (i := 6) sc_step_by_step.nd rfl (Or.inl rfl) (Def.call (ok_next_step T) hr (by decide) (pa_cons (pv 0) (pa_cons (pv 5) (pa_cons (pv 1) (pa_cons (pv 2) pa_nil))))))))))
    (pss_one (ps_ret (pv 4))))))), ?_⟩
  obtain ⟨a, t, r, c, c', ro, mo, rfl, Y, hc, hmo, h⟩ := h
  obtain ⟨dx, ta, sl, al, ll, cl, X, _⟩ := id Y
  have hm := mm_le X.wf
  refine ⟨by show 0 ≤ sizeLine; decide, fun D hD => ?_⟩
  have sD : Same H (upd H D (.lst [])) := same_new hD
  refine ⟨_, rfl, _, rfl, _, rfl, _, rfl, a, t, r, c, 0, c', ro, rfl, Y.same sD, Nat.two_pow_pos _, hc, ?_⟩
  refine ⟨fun m σ H' => ∃ (l : List Nat) (k : Nat), m = mo - l.length ∧ l.length ≤ mo ∧ k < 2 ^ mm t ∧ Bk.sbs t c' ro mo 0 = l ++ Bk.sbs t c' ro (mo - l.length) k ∧
    σ = [some (.ref a), some (.int (c' : Nat)), some (.int (ro : Nat)), some (.int (mo : Nat)), some (.ref D), some (.int (k : Nat)), some (optV (Bk.nxt t c' ro k))] ∧ Same H H' ∧ H' D = some (.lst (natV l)),
    ⟨_, [], 0, rfl, Nat.zero_le _, Nat.two_pow_pos _, rfl, rfl, sD, upd_same⟩, ?_⟩
  rintro m σ H1 ⟨l, k, rfl, hl, hk, he, rfl, s1, hD1⟩
  refine ⟨_, rfl, rfl, _, rfl, ifB (optV_not _) (fun b => ?_) fun b => ?_⟩
  · obtain ⟨g, hg⟩ : ∃ g, Bk.nxt t c' ro k = some g := Option.isSome_iff_exists.mp b
    have hgm := (Bk.nsF_some _ _ hg).1
    rw [hg]
    refine ⟨_, rfl, _, _, rfl, .inl (SqL.of hD1), _, rfl, _, _, rfl, rfl, _, rfl, ?_⟩
    rw [natV_len]
    by_cases c0 : l.length < mo
    · refine ifT (decide_eq_true (by omega)) ⟨_, fun _ _ z => z, _, rfl, .inl ⟨rfl, _, SqL.of hD1⟩, _, rfl, _, _, _, rfl, rfl, hD1, ?_, ?_⟩
      · rw [natV_len]
        exact small_lt (by omega)
      have s2 : Same H (upd H1 D (.lst (natV l ++ [V.int (g : Nat)]))) := fun c o z => by rw [upd_ne (ne_of_none z hD)]; exact s1 _ _ z
      have hk' : k ||| 2 ^ g < 2 ^ mm t := Bk.or_lt hk hgm
      refine ⟨_, rfl, _, rfl, _, _, rfl, rfl, cpow (by omega), _, _, rfl, rfl, ?_⟩
      dsimp only
      rw [shl1, or_nat]
      refine ⟨_, rfl, _, rfl, _, rfl, _, rfl, a, t, r, c, k ||| 2 ^ g, c', ro, rfl, Y.same s2, hk', hc, ?_⟩
      refine ⟨mo - (l ++ [g]).length, ?_, l ++ [g], k ||| 2 ^ g, rfl, ?_, hk', ?_, rfl, s2, ?_⟩
      · rw [List.length_append]; show mo - (l.length + 1) < _; omega
      · rw [List.length_append]; show l.length + 1 ≤ _; omega
      · rw [he, List.length_append, List.append_assoc]
        obtain ⟨n, hn⟩ : ∃ n, mo - l.length = n + 1 := ⟨mo - l.length - 1, by omega⟩
        have hn2 : mo - (l.length + [g].length) = n := by show mo - (l.length + 1) = n; omega
        rw [hn, hn2, Bk.sbs, hg]
        rfl
      · rw [upd_same, natV_append]
        rfl
    · refine ifF (decide_eq_false (by omega)) ⟨_, rfl, h H1 D s1 hD ?_⟩
      rw [hD1, he, show mo - l.length = 0 by omega]
      show _ = some (HO.lst (natV (l ++ [])))
      rw [List.append_nil]
  · have hg : Bk.nxt t c' ro k = none := by
      cases e : Bk.nxt t c' ro k with
      | none => rfl
      | some g => rw [e] at b; cases b
    refine ifF rfl ⟨_, rfl, h H1 D s1 hD ?_⟩
    rw [hD1, he, sbs_stop hg, List.append_nil]
def sp_set_of (K : PySem.W.Frag) : Sp := fun vs H Q _ => ∃ (a : Addr) (l : List Nat), vs = [.ref a] ∧ SqL K H a (natV l) ∧ (∀ g ∈ l, g < 16) ∧ Q (.int (Bk.setOf l : Nat)) H
theorem sc_set_of : FnScope ["some", "found", "grouping"] ["some"] (defScope (top 17)) := ⟨rfl, rfl, rfl, by decide +kernel, rfl, by decide +kernel, by decide +kernel⟩
theorem ok_set_of (T : Txt K mg) : Def P w K mg base CX0 1 "set_of" ["some"] (sp_set_of K) := by
  obtain ⟨fd, F⟩ := fd_set_of T
  refine Def.mk' F sc_set_of (gl_set_of T) (fun vs H Q E h => by obtain ⟨_, _, rfl, _⟩ := h; rfl) (fun _ _ _ _ _ _ us hl => match us, hl with | [_], _ => rfl) fun cdv A outer s H vs Q E hr h => ?_
  refine ⟨_, PSs.nox (pss_cons (ps_set (i := 1) sc_set_of.nd rfl (Or.inl rfl) pe_int)
    (pss_cons (ps_for PassesOwn.never rfl (pi_list (pv 0)) (pg_name (i := 2) sc_set_of.nd rfl (Or.inl rfl))
      (pss_one (ps_set (i := 1) sc_set_of.nd rfl (Or.inl rfl) (pe_op op_or (pv 1) (pe_op op_shl pe_int (pv 2))))))
    (pss_one (ps_ret (pv 1))))), ?_⟩
  obtain ⟨a, l, rfl, ha, hl, h⟩ := h
  refine ⟨_, rfl, _, rfl, ⟨_, ha⟩, ?_⟩
  refine for_list (xs := natV l) (fun i σ H' => ∃ v, σ = [some (.ref a), some (.int (Bk.setOf (l.take i) : Nat)), v] ∧ H' = H) ⟨_, rfl, rfl⟩ (fun i σ H' _ ⟨_, _, e⟩ => e ▸ ha) ?_ ?_
  · rintro i x σ H1 hx ⟨v, rfl, rfl⟩
    have hi : i < l.length := by
      have := (List.getElem?_eq_some_iff.mp hx).1
      rw [natV_len] at this
      exact this
    have hci : l[i]? = some l[i] := List.getElem?_eq_getElem hi
    have hx : x = V.int (l[i] : Nat) := Option.some.inj (hx.symm.trans (natV_get hci))
    subst hx
    have hg := hl _ (List.getElem_mem hi)
    rw [take_snoc hci]
    generalize l[i] = g at hg
    refine ⟨_, rfl, _, rfl, _, _, rfl, rfl, cpow (by omega), _, _, rfl, rfl, ?_⟩
    dsimp only
    rw [shl1, or_nat]
    rw [show Bk.setOf (l.take i ++ [g]) = Bk.setOf (l.take i) ||| 2 ^ g by unfold Bk.setOf; rw [List.foldl_append]; rfl]
    exact ⟨_, rfl, rfl⟩
  · rintro σ H1 ⟨v, rfl, rfl⟩
    rw [natV_len, List.take_length]
    exact ⟨_, rfl, h⟩
end
end Bw
set_option Elab.async false
set_option linter.all false
set_option maxRecDepth 100000
set_option maxHeartbeats 4000000
namespace Bw
open PySem PySem.Spec PyProof.Rows L2
section
variable {P : Program} {w : World} {K : PySem.W.Frag} {mg : Str → Option Value} {base : Heap}
open Bk (lb memb sm sz mm asked lines cnt mn rd cf)
/-- what a question reads -/
def rdr (t : Vamvsa.Table) (q : Nat) (l : List Nat) : Option Nat := l.foldl (Vamvsa.better t q) none
theorem better_no {t : Vamvsa.Table} {q v : Nat} {b : Option Nat} (h : cf t q v = false) : Vamvsa.better t q b v = b := by
  unfold Vamvsa.better
  rw [if_pos (show Vamvsa.canFrom (Vamvsa.width t) v q = false from h)]
theorem better_yes {t : Vamvsa.Table} {q v : Nat} {b : Option Nat} (h : cf t q v = true) : Vamvsa.better t q b v = match b with
    | none => some v
    | some u => if sz t v < sz t u then some v else some u := by
  unfold Vamvsa.better
  rw [if_neg (show ¬ Vamvsa.canFrom (Vamvsa.width t) v q = false from fun z => by rw [show cf t q v = false from z] at h; cases h)] <;> rfl
theorem better_none {t : Vamvsa.Table} {q v : Nat} (h : cf t q v = true) : Vamvsa.better t q none v = some v := better_yes h
theorem better_some {t : Vamvsa.Table} {q v u : Nat} (h : cf t q v = true) : Vamvsa.better t q (some u) v = if sz t v < sz t u then some v else some u := better_yes h
theorem rdr_mem {t : Vamvsa.Table} {q : Nat} : ∀ (l : List Nat) (b : Option Nat) (g : Nat), l.foldl (Vamvsa.better t q) b = some g → g ∈ l ∨ b = some g
  | [], b, g, h => .inr h
  | v :: r, b, g, h => by
    rw [List.foldl_cons] at h
    rcases rdr_mem r _ g h with h | h
    · exact .inl (List.mem_cons_of_mem _ h)
    · cases c : cf t q v with
      | false => rw [better_no c] at h; exact .inr h
      | true =>
        rw [better_yes c] at h
        cases b with
        | none => injection h with h; exact .inl (by rw [h]; simp)
        | some u =>
          dsimp only at h
          split at h
          · injection h with h; exact .inl (by rw [h]; simp)
          · exact .inr h
def sp_read_by (K : PySem.W.Frag) : Sp := fun vs H Q _ => ∃ (h qa : Addr) (t : Vamvsa.Table) (r c : Nat) (p : Bool) (k : Nat) (a : Vamvsa.Ask), vs = [.ref h, .int (k : Nat), .ref qa] ∧ HdAt K H h t r c p ∧ AskA K H qa a ∧ a.g < mm t ∧
  ∀ H', Same H H' → Q (optV (rdr t a.g (memb (mm t) k))) H'
theorem sc_read_by : FnScope ["held", "kept", "question", "found", "grouping"] ["held", "kept", "question"] (defScope (top 18)) := ⟨rfl, rfl, rfl, by decide +kernel, rfl, by decide +kernel, by decide +kernel⟩
theorem ok_read_by (T : Txt K mg) : Def P w K mg base CX0 2 "read_by" ["held", "kept", "question"] (sp_read_by K) := by
  obtain ⟨fd, F⟩ := fd_read_by T
  refine Def.mk' F sc_read_by (gl_read_by T) (fun vs H Q E h => by obtain ⟨_, _, _, _, _, _, _, _, rfl, _⟩ := h; rfl) (fun _ _ _ _ _ _ us hl => match us, hl with | [_, _, _], _ => rfl) fun cdv A outer s H vs Q E hr h => ?_
  refine ⟨_, PSs.nox (pss_cons (ps_set (i := 3) sc_read_by.nd rfl (Or.inl rfl) pe_non)
    (pss_cons (ps_for PassesOwn.never rfl (pi_list (Def.call (ok_members T) hr (by decide) (pa_cons (pv 0) (pa_cons (pv 1) pa_nil)))) (pg_name (i := 4) sc_read_by.nd rfl (Or.inl rfl))
      (pss_one (ps_if (pt_val (Def.call (ok_is_within T) hr (by decide) (pa_cons (pe_fld (pv 2) rfl) (pa_cons (pv 4) pa_nil))))
        (pss_one (ps_if (PW.pt (pw_or (pt_cmpR op_isN (pv 3) pe_non (nomark _)) (pw_or1 (pt_cmpR op_lt (pe_ix ix_list (pe_fld (pv 0) rfl) (pv 4) (fun _ _ => rfl)) (pe_ix ix_list (pe_fld (pv 0) rfl) (pv 3) (fun _ _ => rfl)) (nomark _)))))
          (pss_one (ps_set (i := 3) sc_read_by.nd rfl (Or.inl rfl) (pv 4)))
          (pss_nil)))
        (pss_nil))))
    (pss_one (ps_ret (pv 3))))), ?_⟩
  obtain ⟨a, qa, t, r, c, p, k, ak, rfl, Y, ⟨qdx, hq⟩, hg, h⟩ := h
  obtain ⟨dx, ta, sl, al, ll, cl, X, _⟩ := id Y
  have hm := mm_le X.wf
  refine ⟨_, rfl, _, rfl, a, t, r, c, p, k, rfl, Y, fun H1 D s1 hD f1 => ?_⟩
  refine ⟨_, rfl, ⟨_, SqL.of f1⟩, ?_⟩
  generalize hL : memb (mm t) k = L at f1 h
  have hLm : ∀ g ∈ L, g < mm t := fun g hg => by rw [← hL] at hg; exact (Bk.mem_memb.mp hg).1
  refine for_list (xs := natV L) (fun i σ H' => ∃ v, σ = [some (.ref a), some (.int (k : Nat)), some (.ref qa), some (optV (rdr t ak.g (L.take i))), v] ∧ H' = H1) ⟨_, rfl, rfl⟩ (fun i σ H' _ ⟨_, _, e⟩ => e ▸ SqL.of f1) ?_ ?_
  · rintro i x σ H2 hx ⟨v, rfl, rfl⟩
    have hi : i < L.length := by
      have := (List.getElem?_eq_some_iff.mp hx).1
      rw [natV_len] at this
      exact this
    have hci : L[i]? = some L[i] := List.getElem?_eq_getElem hi
    have hx : x = V.int (L[i] : Nat) := Option.some.inj (hx.symm.trans (natV_get hci))
    subst hx
    have hgm := hLm _ (List.getElem_mem hi)
    have hst : rdr t ak.g (L.take (i + 1)) = Vamvsa.better t ak.g (rdr t ak.g (L.take i)) L[i] := by
      rw [take_snoc hci]
      unfold rdr
      rw [List.foldl_append]
      rfl
    have hin : ∀ u, rdr t ak.g (L.take i) = some u → u < mm t := fun u hu => by
      rcases rdr_mem _ _ _ hu with q | q
      · exact hLm _ (List.mem_of_mem_take q)
      · cases q
    generalize rdr t ak.g (L.take i) = b at hst hin
    generalize L[i] = g at hgm hst
    rw [hst]
    have hwi : decide (ak.g &&& g = ak.g) = cf t ak.g g := (Bk.cf_eq hg).symm
    have X2 := X.same s1
    refine ⟨_, rfl, _, _, _, _, _, rfl, s1 _ _ hq, cl_Question T, na_Question_grouping T, qu_grouping, _, rfl, ak.g, g, rfl, _, rfl, ifB hwi (fun w => ?_) fun w => ?_⟩
    · cases b with
      | none =>
        rw [better_none w]
        exact ⟨_, rfl, rfl, _, rfl, ifT rfl (ifT rfl ⟨_, rfl, _, rfl, rfl⟩)⟩
      | some u =>
        have hu := hin u rfl
        rw [better_some w]
        refine ⟨_, rfl, rfl, _, rfl, ifF rfl ⟨_, rfl, _, _, _, _, _, rfl, X2.ins, cl_Held T, na_Held_sizes T, hd_sizes, _, rfl, _, _, _, _, rfl, rfl, SqL.of X2.sizes, atI_nat (natV_get (range_get hgm)),
          _, rfl, _, _, _, _, _, rfl, X2.ins, cl_Held T, na_Held_sizes T, hd_sizes, _, rfl, _, _, _, _, rfl, rfl, SqL.of X2.sizes, atI_nat (natV_get (range_get hu)), _, _, rfl, rfl, _, rfl, ?_⟩⟩
        by_cases y : sz t g < sz t u
        · rw [if_pos y]
          exact ifT (decide_eq_true (by omega)) ⟨_, rfl, _, rfl, rfl⟩
        · rw [if_neg y]
          exact ifF (decide_eq_false (by omega)) ⟨_, rfl, rfl⟩
    · rw [better_no w]
      exact ⟨_, rfl, rfl⟩
  · rintro σ H2 ⟨v, rfl, rfl⟩
    rw [natV_len, List.take_length]
    exact ⟨_, rfl, h _ s1⟩
theorem optV_is (o : Option Nat) (g : Nat) : decide (optV o = V.int (g : Nat)) = (o == some g) := by
  cases o with
  | none => rfl
  | some u =>
    show decide (V.int (u : Nat) = V.int (g : Nat)) = _
    rw [dec_int, Bool.eq_iff_iff, beq_iff_eq, beq_iff_eq, Option.some.injEq]
    omega
theorem rdr_reader (t : Vamvsa.Table) (k q : Nat) : Vamvsa.reader t (memb (mm t) k) q = rdr t q (memb (mm t) k) := by
  unfold Vamvsa.reader rdr
  rw [Bk.sortedKept_of (K := k) fun g hg => Bk.contains_memb hg]
def sp_readers_of (K : PySem.W.Frag) : Sp := fun vs H Q _ => ∃ (h : Addr) (t : Vamvsa.Table) (r c : Nat) (p : Bool) (k g : Nat), vs = [.ref h, .int (k : Nat), .int (g : Nat)] ∧ HdAt K H h t r c p ∧ NewN H Q (Vamvsb.readersOf t (memb (mm t) k) g)
theorem sc_readers_of : FnScope ["held", "kept", "grouping", "some", "number", "question"] ["held", "kept", "grouping"] (defScope (top 19)) := ⟨rfl, rfl, rfl, by decide +kernel, rfl, by decide +kernel, by decide +kernel⟩
theorem ok_readers_of (T : Txt K mg) : Def P w K mg base CX0 3 "readers_of" ["held", "kept", "grouping"] (sp_readers_of K) := by
  obtain ⟨fd, F⟩ := fd_readers_of T
  refine Def.mk' F sc_readers_of (gl_readers_of T) (fun vs H Q E h => by obtain ⟨_, _, _, _, _, _, _, rfl, _⟩ := h; rfl) (fun _ _ _ _ _ _ us hl => match us, hl with | [_, _, _], _ => rfl) fun cdv A outer s H vs Q E hr h => ?_
  refine ⟨_, PSs.nox (pss_cons (ps_set (i := 3) sc_readers_of.nd rfl (Or.inl rfl) (pe_fld (pe_fld (pv 0) rfl) rfl))
    (pss_one (ps_ret (pe_lc (own := [("number", 4), ("question", 5)]) (g := gTup K 2 (gCons (gName 4) (gCons (gName 5) gNil))) rfl sc_readers_of.nd (pi_enum rfl (fr_enumerate T) (pa_cons (pv 3) pa_nil)) (blkOk_by (own := [("number", 4), ("question", 5)]) (N := ["held", "kept", "grouping", "some", "number", "question"]) (sc := defScope (top 19)) (by decide +kernel)) (fun _ _ _ _ _ => pg_tup rfl (pgs_cons (pg_name (i := 4) sc_readers_of.nd rfl (Or.inl rfl)) (pgs_cons (pg_name (i := 5) sc_readers_of.nd rfl (Or.inl rfl)) pgs_nil))) (fun _ _ _ _ _ => pts_one (pt_cmpR op_eq (Def.call (ok_read_by T) hr (by decide) (pa_cons (pv 0) (pa_cons (pv 1) (pa_cons (pv 5) pa_nil)))) (pv 2) (nomark _))) (fun _ _ _ _ _ => pv 4))))), ?_⟩
  obtain ⟨a, t, r, c, p, k, g, rfl, Y, h⟩ := h
  obtain ⟨dx, ta, sl, al, ll, cl, X, _⟩ := id Y
  obtain ⟨clC, rl, ql, ⟨tdx, hta⟩, _, _, ⟨qa, hql, hqa⟩⟩ := X.tbl
  refine ⟨_, rfl, _, _, _, _, _, rfl, X.ins, cl_Held T, na_Held_table T, hd_table, _, _, _, _, _, rfl, hta, cl_Table T, na_Table_questions T, tb_questions, ?_⟩
  refine ⟨_, rfl, ql, qa.map V.ref, rfl, SqL.of hql, fun D hD => ?_⟩
  refine lc_it (walk_enum (xs := qa.map V.ref)) (fun i H' => Same H H' ∧ H' D = some (.lst (natV ((List.range i).filter fun i => (t.asks[i]?).any fun a => rdr t a.g (memb (mm t) k) == some g)))) ⟨same_new hD, upd_same⟩ (fun i H' _ p => SqL.of (p.1 _ _ hql)) ?_ ?_
  · rintro i x H1 H2 hi ⟨s1, hD1⟩ ⟨Tp, x0, y, rfl, hT, rfl, hx, hy⟩
    injection hx with hx
    subst hx
    rw [List.length_map, hqa.len] at hi
    have hci : t.asks[i]? = some t.asks[i] := List.getElem?_eq_getElem hi
    obtain ⟨qp, hqp, hq⟩ := hqa.get hci
    have hy : (qa.map V.ref)[i]? = some y := hy
    have hy : y = V.ref qp := by rw [List.getElem?_map, hqp] at hy; exact (Option.some.inj hy).symm
    subst hy
    have hag := (X.wf.ask _ (List.getElem_mem hi)).1
    have hi8 : i < 8 := by have := X.wf.wa; omega
    rw [flt_succ]
    have hany : ((t.asks[i]?).any fun a => rdr t a.g (memb (mm t) k) == some g) = (rdr t (t.asks[i]).g (memb (mm t) k) == some g) := by rw [hci]; rfl
    rw [hany]
    generalize t.asks[i] = ak at hag hq
    have hDT : D ≠ Tp := fun z => by rw [← z, hD1] at hT; cases hT
    have s2 : Same H (upd H1 Tp (.tup [V.int (i : Nat), V.ref qp])) := s1.trans (same_new hT)
    have hD2 : (upd H1 Tp (.tup [V.int (i : Nat), V.ref qp])) D = some (.lst (natV ((List.range i).filter fun i => (t.asks[i]?).any fun a => rdr t a.g (memb (mm t) k) == some g))) := by rw [upd_ne hDT]; exact hD1
    refine ⟨Tp, _, rfl, SqT.of upd_same, rfl, _, _, rfl, _, _, rfl, rfl, rfl, ?_⟩
    generalize upd H1 Tp (.tup [V.int (i : Nat), V.ref qp]) = H2 at s2 hD2
    refine ⟨_, rfl, _, rfl, _, rfl, a, qp, t, r, c, p, k, ak, rfl, Y.same s2, AskA.same s2 _ _ hq, hag, fun H3 s3 => ?_⟩
    have hsc : scal (optV (rdr t ak.g (memb (mm t) k))) (V.int (g : Nat)) = true := by cases rdr t ak.g (memb (mm t) k) <;> rfl
    refine ⟨_, rfl, hsc, _, rfl, ifB (optV_is _ _) (fun b => ?_) fun b => ?_⟩
    · rw [if_pos b]
      refine ⟨_, rfl, _, s3 _ _ hD2, flt_small _ (by omega), ?_, ?_⟩
      · exact fun c o z => by rw [upd_ne (ne_of_none z hD)]; exact (s2.trans s3) _ _ z
      · rw [upd_same, natV_append]
        rfl
    · rw [if_neg (by rw [b]; simp)]
      exact ⟨s2.trans s3, s3 _ _ hD2⟩
  · rintro H1 ⟨s1, hD1⟩
    refine h H1 D s1 hD ?_
    rw [hD1, List.length_map, hqa.len]
    unfold Vamvsb.readersOf
    simp only [rdr_reader]
end
end Bw
set_option Elab.async false
set_option linter.all false
set_option maxRecDepth 100000
set_option maxHeartbeats 4000000
namespace Bw
open PySem PySem.Spec PyProof.Rows L2
section
variable {P : Program} {w : World} {K : PySem.W.Frag} {mg : Str → Option Value} {base : Heap}
open Bk (lb memb sm sz mm asked lines cnt mn rd cf mnC put1 fallS)
/-- the dict of costs: keys ks, in the order in which they came -/
structure Cst (t : Vamvsa.Table) (c n : Nat) (kvs : List (Key × V)) (ks : List Nat) : Prop where
  keys : kvs.map (·.1) = ks.map fun (x : Nat) => (Sum.inl (x : Int) : Key)
  nd : ks.Nodup
  few : ks.length ≤ n
  val : ∀ x : Nat, valV kvs (Sum.inl (x : Int)) = (mnC t c x n).map fun (y : Nat) => V.int (y : Nat)
theorem valV_keys {kvs : List (Key × V)} {ks : List Nat} (h : kvs.map (·.1) = ks.map fun (x : Nat) => (Sum.inl (x : Int) : Key)) (x : Nat) : (valV kvs (Sum.inl (x : Int))).isSome = true ↔ x ∈ ks := by
  rw [← valV_any, List.any_eq_true]
  constructor
  · rintro ⟨p, hp, e⟩
    have e : p.1 = Sum.inl (x : Int) := of_decide_eq_true e
    have hm : p.1 ∈ kvs.map (·.1) := List.mem_map_of_mem hp
    rw [h, e] at hm
    obtain ⟨y, hy, q⟩ := List.mem_map.mp hm
    have q : (y : Int) = (x : Int) := Sum.inl.inj q
    rw [show x = y by omega]
    exact hy
  · intro hx
    have hm : (Sum.inl (x : Int) : Key) ∈ kvs.map (·.1) := by rw [h]; exact List.mem_map.mpr ⟨x, hx, rfl⟩
    obtain ⟨p, hp, e⟩ := List.mem_map.mp hm
    exact ⟨p, hp, decide_eq_true e⟩
theorem putK_keys {kvs : List (Key × V)} {k : Key} {v : V} : (putK kvs k v).map (·.1) = if (valV kvs k).isSome = true then kvs.map (·.1) else kvs.map (·.1) ++ [k] := by
  unfold putK
  rw [valV_any]
  split
  · rw [List.map_map]
    apply List.map_congr_left
    intro p _
    show (if p.1 = k then (p.1, v) else p).1 = p.1
    split <;> rfl
  · rw [List.map_append]
    rfl
theorem put1_none {t : Vamvsa.Table} {c J x : Nat} (e : lines t J = x) : put1 t c J x none = some (Bk.cost t c J) := if_pos e
theorem put1_some {t : Vamvsa.Table} {c J x y : Nat} (e : lines t J = x) : put1 t c J x (some y) = some (Nat.min y (Bk.cost t c J)) := if_pos e
theorem put1_ne {t : Vamvsa.Table} {c J x : Nat} {o : Option Nat} (e : ¬ lines t J = x) : put1 t c J x o = o := if_neg e
theorem Cst.put {t : Vamvsa.Table} {c n : Nat} {kvs : List (Key × V)} {ks : List Nat} (C : Cst t c n kvs ks) (h : ∀ y, mnC t c (lines t n) n = some y → Bk.cost t c n < y) :
    ∃ ks', Cst t c (n + 1) (putK kvs (Sum.inl (lines t n : Int)) (V.int (Bk.cost t c n : Nat))) ks' := by
  have hv : ∀ x : Nat, valV (putK kvs (Sum.inl (lines t n : Int)) (V.int (Bk.cost t c n : Nat))) (Sum.inl (x : Int)) = (mnC t c x (n + 1)).map fun (y : Nat) => V.int (y : Nat) := fun x => by
    rw [valV_put, mnC, C.val]
    by_cases e : lines t n = x
    · rw [if_pos (by rw [e])]
      subst e
      cases q : mnC t c (lines t n) n with
      | none => rw [put1_none rfl]; rfl
      | some y =>
        have := h y q
        rw [put1_some rfl]
        show _ = some (V.int ((min y (Bk.cost t c n) : Nat) : Int))
        rw [Nat.min_eq_right (by omega)]
    · rw [if_neg (fun z => e (by have z : (x : Int) = (lines t n : Int) := Sum.inl.inj z; omega)), put1_ne e]
  by_cases hs : (valV kvs (Sum.inl (lines t n : Int))).isSome = true
  · exact ⟨ks, by rw [putK_keys, if_pos hs]; exact C.keys, C.nd, by have := C.few; omega, hv⟩
  · refine ⟨ks ++ [lines t n], by rw [putK_keys, if_neg hs, C.keys, List.map_append]; rfl, ?_, ?_, hv⟩
    · rw [List.nodup_append]
      refine ⟨C.nd, by simp, fun a ha b hb e => ?_⟩
      rw [List.mem_singleton.mp hb] at e
      exact hs ((valV_keys C.keys _).mpr (e ▸ ha))
    · rw [List.length_append]
      have := C.few
      show ks.length + 1 ≤ n + 1
      omega
theorem Cst.skip {t : Vamvsa.Table} {c n : Nat} {kvs : List (Key × V)} {ks : List Nat} {y : Nat} (C : Cst t c n kvs ks) (h : mnC t c (lines t n) n = some y) (hy : ¬ Bk.cost t c n < y) : Cst t c (n + 1) kvs ks := by
  refine ⟨C.keys, C.nd, by have := C.few; omega, fun x => ?_⟩
  rw [C.val, mnC]
  by_cases e : lines t n = x
  · subst e
    rw [h, put1_some rfl]
    show some (V.int ((y : Nat) : Int)) = some (V.int ((min y (Bk.cost t c n) : Nat) : Int))
    rw [Nat.min_eq_left (by omega)]
  · rw [put1_ne e]
theorem atI_neg1 {xs : List V} {v : V} (h : xs[xs.length - 1]? = some v) : atI xs (-1) = some v := by
  rcases List.eq_nil_or_concat xs with rfl | ⟨l, b, rfl⟩
  · cases h
  · rw [List.concat_eq_append] at h ⊢
    rw [List.length_append, List.getElem?_append_right (by simp)] at h
    simp at h
    rw [← h]
    exact atI_last _ _
/-- pairs of whole numbers, each a tuple -/
def PairA (G : Hp) (p : Addr) (q : Nat × Nat) : Prop := G p = some (.tup [V.int (q.1 : Nat), V.int (q.2 : Nat)])
theorem PairA.same {G H : Hp} (s : Same G H) (a : Addr) (c : Nat × Nat) (h : PairA G a c) : PairA H a c := s _ _ h
def sp_rooms_that_bring (K : PySem.W.Frag) : Sp := fun vs H Q _ => ∃ (h : Addr) (t : Vamvsa.Table) (r c c' : Nat), vs = [.ref h, .int (c' : Nat)] ∧ HdAt K H h t r c true ∧ c' ≤ 1000 ∧
  ∀ (H' : Hp) (p : Addr), Same H H' → H p = none → LstA (PairA H') H' p (Vamvsb.curve t ⟨0, c'⟩) → (Vamvsb.curve t ⟨0, c'⟩).length ≤ 65536 → Q (.ref p) H'
theorem sc_rooms_that_bring : FnScope ["held", "changes", "costs", "kept", "lines", "cost", "found"] ["held", "changes"] (defScope (top 20)) := ⟨rfl, rfl, rfl, by decide +kernel, rfl, by decide +kernel, by decide +kernel⟩
theorem ok_rooms_that_bring (T : Txt K mg) : Def P w K mg base CX0 3 "rooms_that_bring" ["held", "changes"] (sp_rooms_that_bring K) := by
  obtain ⟨fd, F⟩ := fd_rooms_that_bring T
  refine Def.mk' F sc_rooms_that_bring (gl_rooms_that_bring T) (fun vs H Q E h => by obtain ⟨_, _, _, _, _, rfl, _⟩ := h; rfl) (fun _ _ _ _ _ _ us hl => match us, hl with | [_, _], _ => rfl) fun cdv A outer s H vs Q E hr h => ?_
  refine ⟨_, PSs.nox (pss_cons (ps_set (i := 2) sc_rooms_that_bring.nd rfl (Or.inl rfl) pe_dnewK)
    (pss_cons (ps_for PassesOwn.never rfl (pi_range1 rfl (fr_range T) (pa_cons (pe_callB call_len_seq (by rfl) (fr_len T) PySem.boot_len (pa_cons (pe_fld (pv 0) rfl) pa_nil)) pa_nil)) (pg_name (i := 3) sc_rooms_that_bring.nd rfl (Or.inl rfl))
      (pss_cons (ps_set (i := 4) sc_rooms_that_bring.nd rfl (Or.inl rfl) (pe_ix ix_list (pe_fld (pv 0) rfl) (pv 3) (fun _ _ => rfl)))
      (pss_cons (ps_set (i := 5) sc_rooms_that_bring.nd rfl (Or.inl rfl) (Def.call (ok_cost_of T) hr (by decide) (pa_cons (pv 0) (pa_cons (pv 3) (pa_cons (pv 1) pa_nil)))))
      (pss_one (ps_if (PW.pt (pw_or (pt_cmp (pc_dnotin (hu_of hr) (pv 4) (pv 2))) (pw_or1 (pt_cmpR op_lt (pv 5) (pe_dget (hu_of hr) (pv 2) (pv 4) (fun _ _ => rfl)) (nomark _)))))
        (pss_one (ps_dput (hu_of hr) (pv 2) (pv 4) (pv 5) rfl))
        (pss_nil))))))
    (pss_cons (ps_set (i := 6) sc_rooms_that_bring.nd rfl (Or.inl rfl) (pe_lst pa_nil))
    (pss_cons (ps_for PassesOwn.never rfl (pi_list (pe_callB (call_sortedDA rfl) (by rfl) (fr_sorted T) PyProof.Rows.boot_sorted (pa_cons (pv 2) pa_nil))) (pg_name (i := 4) sc_rooms_that_bring.nd rfl (Or.inl rfl))
      (pss_one (ps_if (PW.pt (pw_or (pt_cmpR op_eq (pe_callB call_len_seq (by rfl) (fr_len T) PySem.boot_len (pa_cons (pv 6) pa_nil)) pe_int (nomark _)) (pw_or1 (pt_cmpR op_lt (pe_dget (hu_of hr) (pv 2) (pv 4) (fun _ _ => rfl)) (pe_ix ix_tup (pe_ix ix_list (pv 6) (pe_un un_neg pe_int) (fun _ _ => rfl)) pe_int (fun _ _ => rfl)) (nomark _)))))
        (pss_one (ps_expr (pe_bm PySem.F.plainAttrs_list PySem.F.slot_list_append PySem.F.type_list_append mt_append (pv 6) (pa_cons (pe_tup (pa_cons (pv 4) (pa_cons (pe_dget (hu_of hr) (pv 2) (pv 4) (fun _ _ => rfl)) pa_nil))) pa_nil))))
        (pss_nil))))
    (pss_one (ps_ret (pv 6))))))), ?_⟩
  obtain ⟨a, t, r, c, c', rfl, Y, hc, h⟩ := h
  obtain ⟨dx, ta, sl, al, ll, cl, X, hal, hll, hcl⟩ := id Y
  obtain ⟨q1, q2⟩ := pow16 (mm_le X.wf)
  intro d hd
  have sd : Same H (upd H d (.dK [])) := same_new hd
  refine ⟨_, rfl, _, _, _, _, _, rfl, sd _ _ X.ins, cl_Held T, na_Held_asked T, hd_asked, _, _, rfl, .inl (SqL.of (sd _ _ hal)), _, rfl, by rw [sets_len]; omega, by rw [sets_len]; omega, ?_⟩
  rw [sets_len, Int.toNat_natCast]
  refine for_range (lo := 0) (n := 2 ^ mm t) (fun i σ H' => ∃ kvs ks u v x y, σ = [some (.ref a), some (.int (c' : Nat)), some (.ref d), u, v, x, y] ∧ Same H H' ∧ H' d = some (.dK kvs) ∧ Cst t c' i kvs ks)
    ⟨[], [], _, _, _, _, rfl, sd, upd_same, rfl, List.nodup_nil, Nat.le_refl _, fun _ => rfl⟩ ?_ ?_
  · rintro i σ H1 hi ⟨kvs, ks, u, v, x, y, rfl, s1, hd1, C⟩
    rw [show (0 : Int) + (i : Nat) = ((i : Nat) : Int) by omega]
    have hlen : kvs.length < sizeLine := by
      have e := congrArg List.length C.keys
      rw [List.length_map, List.length_map] at e
      have := C.few
      exact small_lt (by omega)
    refine ⟨_, rfl, _, _, _, _, _, rfl, s1 _ _ X.ins, cl_Held T, na_Held_lines T, hd_lines, _, rfl, _, _, _, _, rfl, rfl, SqL.of (s1 _ _ hll), atI_nat (sets_get hi), ?_⟩
    refine ⟨_, rfl, _, rfl, _, rfl, a, t, r, c, i, c', rfl, Y.same s1, hi, hc, ?_⟩
    have hg := DGet.k (k := Sum.inl (lines t i : Int)) hd1
    rw [C.val] at hg
    have put : (∀ y, mnC t c' (lines t i) i = some y → Bk.cost t c' i < y) → sDPut (tVar 2) (tVar 4) (tVar 5)
        { nx := fun σ H' => ∃ kvs ks u v x y, σ = [some (.ref a), some (.int (c' : Nat)), some (.ref d), u, v, x, y] ∧ Same H H' ∧ H' d = some (.dK kvs) ∧ Cst t c' (i + 1) kvs ks, rt := Q }
        [some (V.ref a), some (.int (c' : Nat)), some (.ref d), some (.int (i : Nat)), some (.int (lines t i : Nat)), some (.int (Bk.cost t c' i : Nat)), y] H1 := fun hh => by
      obtain ⟨ks', C'⟩ := C.put hh
      exact ⟨_, rfl, _, rfl, _, rfl, _, _, rfl, DPut.k (k := Sum.inl (lines t i : Int)) hd1 hlen, _, ks', _, _, _, _, rfl, fun c o z => by rw [upd_ne (ne_of_none z hd)]; exact s1 _ _ z, upd_same, C'⟩
    refine ⟨_, rfl, _, rfl, _, _, rfl, hg, _, rfl, ?_⟩
    cases q : mnC t c' (lines t i) i with
    | none => exact ifT rfl (ifT rfl (put fun y hy => by rw [q] at hy; cases hy))
    | some m =>
      rw [q] at hg
      refine ifF rfl ⟨_, rfl, _, rfl, _, rfl, _, _, rfl, hg, _, _, rfl, rfl, _, rfl, ?_⟩
      by_cases e : Bk.cost t c' i < m
      · exact ifT (decide_eq_true (by omega)) (put fun y hy => by rw [q] at hy; injection hy with hy; omega)
      · exact ifF (decide_eq_false (by omega)) ⟨kvs, ks, _, _, _, _, rfl, s1, hd1, C.skip q e⟩
  · rintro σ H1 ⟨kvs, ks, u, v, x, y, rfl, s1, hd1, C⟩
    refine ⟨by show 0 ≤ sizeLine; decide, fun D hD => ?_⟩
    have hDd : D ≠ d := fun z => by rw [z, hd1] at hD; cases hD
    have hD0 : H D = none := s1.free hD
    have s2 : Same H (upd H1 D (.lst [])) := s1.trans (same_new hD)
    have hd2 : (upd H1 D (.lst [])) d = some (.dK kvs) := (upd_ne (Ne.symm hDd)).trans hd1
    refine ⟨_, rfl, d, kvs, ks.map fun (x : Nat) => (x : Int), rfl, .inl hd2, by rw [List.map_map]; exact C.keys, fun ys p hperm hsort hp => ?_⟩
    obtain ⟨zs, rfl⟩ : ∃ zs : List Nat, ys = zs.map fun (x : Nat) => (x : Int) := by
      refine ⟨ys.map Int.toNat, ?_⟩
      rw [List.map_map]
      refine (List.map_id _).symm.trans (List.map_congr_left fun y hy => ?_)
      obtain ⟨x, _, rfl⟩ := List.mem_map.mp (hperm.mem_iff.mp hy)
      rfl
    have hmem : ∀ x, x ∈ zs ↔ x ∈ ks := fun x => by
      have e := hperm.mem_iff (a := (x : Int))
      simp only [List.mem_map] at e
      constructor
      · intro hx
        obtain ⟨y, hy, q⟩ := e.mp ⟨x, hx, rfl⟩
        rw [show x = y by omega]; exact hy
      · intro hx
        obtain ⟨y, hy, q⟩ := e.mpr ⟨x, hx, rfl⟩
        rw [show x = y by omega]; exact hy
    have hzlen : zs.length = ks.length := by
      have := hperm.length_eq
      rw [List.length_map, List.length_map] at this
      exact this
    have hznd : (zs.map fun (x : Nat) => (x : Int)).Nodup := hperm.nodup_iff.mpr (by
      unfold List.Nodup
      rw [List.pairwise_map]
      exact List.Pairwise.imp (fun hab e => hab (by omega)) C.nd)
    have hzs : zs.Pairwise (· < ·) := by
      rw [List.pairwise_map] at hsort
      unfold List.Nodup at hznd
      rw [List.pairwise_map] at hznd
      exact (hsort.and hznd).imp fun {a b} q => by
        obtain ⟨q1, q2⟩ := q
        have : a ≠ b := fun z => q2 (by rw [z])
        omega
    have hcv := Bk.curve_law (t := t) (m := ⟨0, c'⟩) hzs fun x => by
      rw [hmem, ← valV_keys C.keys, C.val, Option.isSome_map]
    rw [← Bk.fallS_nil] at hcv
    have hpD : p ≠ D := fun z => by rw [z, upd_same] at hp; cases hp
    have hpd : p ≠ d := fun z => by rw [z, hd2] at hp; cases hp
    have hV : (zs.map fun (x : Nat) => (x : Int)).map V.int = natV zs := by rw [List.map_map]; rfl
    rw [hV]
    have s3 : Same H (upd (upd H1 D (.lst [])) p (.lst (natV zs))) := s2.trans (same_new hp)
    have hp3 : (upd (upd H1 D (.lst [])) p (.lst (natV zs))) p = some (.lst (natV zs)) := upd_same
    have hD3 : (upd (upd H1 D (.lst [])) p (.lst (natV zs))) D = some (.lst []) := (upd_ne (Ne.symm hpD)).trans upd_same
    have hd3 : (upd (upd H1 D (.lst [])) p (.lst (natV zs))) d = some (.dK kvs) := (upd_ne (Ne.symm hpd)).trans hd2
    generalize (upd (upd H1 D (.lst [])) p (.lst (natV zs))) = H3 at s3 hp3 hD3 hd3
    have hzl : zs.length ≤ 65536 := by have := C.few; omega
    refine ⟨_, rfl, ⟨_, SqL.of hp3⟩, ?_⟩
    generalize hf : (fun x => (x, (mnC t c' x (2 ^ mm t)).getD 0)) = f at hcv
    refine for_list (xs := natV zs) (fun i σ H' => ∃ as u v y, σ = [some (.ref a), some (.int (c' : Nat)), some (.ref d), u, v, y, some (.ref D)] ∧ Same H H' ∧ H' p = some (.lst (natV zs)) ∧ H' d = some (.dK kvs) ∧ H' D = some (.lst (as.map V.ref)) ∧ Al2 (PairA H') as (((zs.take i).map f).foldl fallS []))
      ⟨[], _, _, _, rfl, s3, hp3, hd3, hD3, trivial⟩ (fun i σ H' _ ⟨_, _, _, _, _, _, e, _⟩ => SqL.of e) ?_ ?_
    · rintro i x σ H4 hx ⟨as, u, v, y, rfl, s4, hp4, hd4, hD4, hal⟩
      have hi : i < zs.length := by
        have := (List.getElem?_eq_some_iff.mp hx).1
        rw [natV_len] at this
        exact this
      have hci : zs[i]? = some zs[i] := List.getElem?_eq_getElem hi
      have hx : x = V.int (zs[i] : Nat) := Option.some.inj (hx.symm.trans (natV_get hci))
      subst hx
      have hzi : zs[i] ∈ ks := (hmem _).mp (List.getElem_mem hi)
      have hlen := Bk.fallS_len ((zs.take i).map f) []
      rw [List.length_map, List.length_take, List.length_nil] at hlen
      rw [take_snoc hci, List.map_append, List.foldl_append]
      generalize zs[i] = z at hzi
      obtain ⟨m, hm⟩ : ∃ m, mnC t c' z (2 ^ mm t) = some m := by
        have := (valV_keys C.keys z).mpr hzi
        rw [C.val, Option.isSome_map] at this
        exact Option.isSome_iff_exists.mp this
      have hfz : f z = (z, m) := by rw [← hf]; show (z, (mnC t c' z (2 ^ mm t)).getD 0) = _; rw [hm]; rfl
      show tIfS _ _ _ _ _ _
      have hg : DGet H4 d (V.int (z : Nat)) (some (V.int (m : Nat))) := by
        have := DGet.k (k := Sum.inl (z : Int)) hd4
        rw [C.val, hm] at this
        exact this
      generalize ((zs.take i).map f).foldl fallS [] = acc at hal hlen
      have hac := hal.len
      have app : fallS acc (z, m) = acc ++ [(z, m)] → tDrop (tBM K "list" rAppend (tVar 6) (tCons (tTup (tCons (tVar 4) (tCons (tDGet (tVar 2) (tVar 4)) tNil))) tNil))
          { nx := fun σ H' => ∃ as u v y, σ = [some (.ref a), some (.int (c' : Nat)), some (.ref d), u, v, y, some (.ref D)] ∧ Same H H' ∧ H' p = some (.lst (natV zs)) ∧ H' d = some (.dK kvs) ∧ H' D = some (.lst (as.map V.ref)) ∧ Al2 (PairA H') as ((([z] : List Nat).map f).foldl fallS acc), rt := Q }
          [some (V.ref a), some (.int (c' : Nat)), some (.ref d), u, some (.int (z : Nat)), y, some (.ref D)] H4 := fun e => by
        refine ⟨_, rfl, .inl ⟨rfl, _, SqL.of hD4⟩, _, rfl, _, rfl, _, rfl, _, _, rfl, hg, by show 2 ≤ sizeLine; decide, fun q hq => ?_⟩
        have hDq : D ≠ q := fun z => by rw [← z, hD4] at hq; cases hq
        have hpD2 : p ≠ D := hpD
        refine ⟨_, _, _, rfl, rfl, (upd_ne hDq).trans hD4, ?_, as ++ [q], _, _, _, rfl, ?_, ?_, ?_, ?_, ?_⟩
        · rw [List.length_map]
          exact small_lt (by omega)
        · exact fun c o z => by rw [upd_ne (ne_of_none z hD0), upd_ne (ne_of_none (s4 _ _ z) hq)]; exact s4 _ _ z
        · rw [upd_ne hpD, upd_ne (ne_of_none hp4 hq)]; exact hp4
        · rw [upd_ne (Ne.symm hDd), upd_ne (ne_of_none hd4 hq)]; exact hd4
        · rw [upd_same, List.map_append]; rfl
        · show Al2 _ _ (fallS acc (f z))
          rw [hfz, e]
          refine Al2.snoc ?_ (hal.imp fun e c z => ?_)
          · show upd _ D _ q = _
            rw [upd_ne (Ne.symm hDq), upd_same]
          · have z : H4 e = _ := z
            have hne : e ≠ D := fun y => by rw [y, hD4] at z; cases z
            show upd _ D _ e = _
            rw [upd_ne hne, upd_ne (ne_of_none z hq)]
            exact z
      refine ⟨_, rfl, _, _, rfl, .inl (SqL.of hD4), rfl, _, rfl, ?_⟩
      rw [List.length_map, hac]
      by_cases c0 : acc = []
      · subst c0
        exact ifT rfl (ifT rfl (app rfl))
      · have hpos : 0 < acc.length := List.length_pos_iff.mpr c0
        obtain ⟨q, hq⟩ : ∃ q, acc[acc.length - 1]? = some q := ⟨_, List.getElem?_eq_getElem (by omega)⟩
        have hgl : acc.getLast? = some q := by rw [List.getLast?_eq_getElem?]; exact hq
        obtain ⟨qp, hqp, hqt⟩ := hal.get hq
        have hqt : H4 qp = some (.tup [V.int (q.1 : Nat), V.int (q.2 : Nat)]) := hqt
        have hat : atI (as.map V.ref) (-1) = some (V.ref qp) := atI_neg1 (by rw [List.length_map, hac, List.getElem?_map, hqp]; rfl)
        refine ifF (decide_eq_false fun z => by have z := V.int.inj z; omega) ⟨_, rfl, _, rfl, _, _, rfl, hg, _, rfl, _, rfl, _, _, _, _, rfl, rfl, SqL.of hD4, hat, _, _, _, _, rfl, rfl, SqT.of hqt, rfl, _, _, rfl, rfl, _, rfl, ?_⟩
        have hfs : fallS acc (z, m) = if m < q.2 then acc ++ [(z, m)] else acc := by unfold fallS; rw [hgl]
        by_cases e : m < q.2
        · rw [if_pos e] at hfs
          exact ifT (decide_eq_true (by omega)) (app hfs)
        · rw [if_neg e] at hfs
          refine ifF (decide_eq_false (by omega)) ⟨as, _, _, _, rfl, s4, hp4, hd4, hD4, ?_⟩
          show Al2 _ _ (fallS acc (f z))
          rw [hfz, hfs]
          exact hal
    · rintro σ H4 ⟨as, u, v, y, rfl, s4, hp4, hd4, hD4, hal⟩
      rw [natV_len, List.take_length, ← hcv] at hal
      refine ⟨_, rfl, h H4 D s4 hD0 ⟨as, hD4, hal⟩ ?_⟩
      rw [hcv]
      have := Bk.fallS_len (zs.map f) []
      rw [List.length_map, List.length_nil] at this
      omega
end
end Bw
set_option Elab.async false
set_option linter.all false
set_option maxRecDepth 100000
set_option maxHeartbeats 4000000
namespace Bw
open PySem PySem.Spec PyProof.Rows L2
section
variable {P : Program} {w : World} {K : PySem.W.Frag} {mg : Str → Option Value} {base : Heap}
open Bk (lb memb sm sz mm asked lines cnt mn rd cf)
def sp_Desk_init (K : PySem.W.Frag) : Sp := fun vs H Q _ => ∃ (p dx : Addr), vs = [.ref p] ∧ H p = some (.ins (He.ga K "Desk") dx []) ∧ Q .non (upd H p (.ins (He.ga K "Desk") dx [("held", .non)]))
theorem sc_Desk_init : FnScope ["self"] ["self"] (defScope (inClass (top 95) 0)) := ⟨rfl, rfl, rfl, by decide +kernel, rfl, by decide +kernel, by decide +kernel⟩
theorem ok_Desk_init (T : Txt K mg) : DefC P w K mg base CX0 1 "Desk" ["self"] (sp_Desk_init K) := by
  obtain ⟨fd, F⟩ := fd_Desk_init T
  refine DefC.mk' F sc_Desk_init (gl_Desk T) (mk_Desk T) (fun vs H Q E h => by obtain ⟨_, _, rfl, _⟩ := h; rfl) (fun _ _ _ _ _ _ us hl => match us, hl with | [_], _ => rfl) fun cdv A outer s H vs Q E hr h => ?_
  refine ⟨_, PSs.nox (pss_one (ps_fld (pv 0) pe_non rfl)), ?_⟩
  obtain ⟨p, dx, rfl, hp, h⟩ := h
  exact ⟨_, rfl, _, _, _, _, rfl, hp, cl_Desk T, na_Desk_held T, (by show 0 < 1000; decide), h⟩
/-- a refusal by its number -/
def Rfs (K : PySem.W.Frag) (H : Hp) (E : XK) (n : Int) : Prop := ∀ (H' : Hp) (d : Addr), Same H H' → H' d = some (.xd [("number", .int n)]) → E (.ref (He.ga K "Refusal")) (some d) H'
def sp_refuse_if (K : PySem.W.Frag) : Sp := fun vs H Q E => ∃ (b : Bool) (n : Int), vs = [.bl b, .int n] ∧ (b = false → Q .non H) ∧ (b = true → Rfs K H E n)
theorem sc_refuse_if : FnScope ["asked", "number"] ["asked", "number"] (defScope (top 96)) := ⟨rfl, rfl, rfl, by decide +kernel, rfl, by decide +kernel, by decide +kernel⟩
theorem ok_refuse_if (T : Txt K mg) : Def P w K mg base (L2.CX P w) 3 "refuse_if" ["asked", "number"] (sp_refuse_if K) := by
  obtain ⟨fd, F⟩ := fd_refuse_if T
  refine Def.mk' F sc_refuse_if (gl_refuse_if T) (fun vs H Q E h => by obtain ⟨_, _, rfl, _⟩ := h; rfl) (fun _ _ _ _ _ _ us hl => match us, hl with | [_, _], _ => rfl) fun cdv A outer s H vs Q E hr h => ?_
  refine ⟨_, pss_one (ps_if (pt_val (pv 0))
      (pss_one (ps_raise rfl (takes_of rfl rfl rfl rfl) (DefE.pmk (ok_Refusal_init T) hr (by decide) (pa_cons (pv 1) pa_nil))))
      (pss_nil)), ?_⟩
  obtain ⟨b, n, rfl, hq, he⟩ := h
  refine ⟨_, rfl, _, rfl, ?_⟩
  cases b with
  | false => exact ifF rfl (hq rfl)
  | true => exact ifT rfl ⟨_, rfl, refusal_made fun d hd => he rfl _ d (same_new hd) upd_same⟩
def sp_listed (K : PySem.W.Frag) : Sp := fun vs H Q _ => ∃ (a : Addr) (xs : List V), vs = [.ref a] ∧ H a = some (.lst xs) ∧ xs.length ≤ 1000000 ∧ ∀ (H' : Hp) (p : Addr), Same H H' → H p = none → H' p = some (.lst (.int (xs.length : Nat) :: xs)) → Q (.ref p) H'
theorem sc_listed : FnScope ["some"] ["some"] (defScope (top 97)) := ⟨rfl, rfl, rfl, by decide +kernel, rfl, by decide +kernel, by decide +kernel⟩
theorem ok_listed (T : Txt K mg) : Def P w K mg base CX0 1 "listed" ["some"] (sp_listed K) := by
  obtain ⟨fd, F⟩ := fd_listed T
  refine Def.mk' F sc_listed (gl_listed T) (fun vs H Q E h => by obtain ⟨_, _, rfl, _⟩ := h; rfl) (fun _ _ _ _ _ _ us hl => match us, hl with | [_], _ => rfl) fun cdv A outer s H vs Q E hr h => ?_
  refine ⟨_, PSs.nox (pss_one (ps_ret (pe_op op_cat (pe_lst (pa_cons (pe_callB call_len_seq (by rfl) (fr_len T) PySem.boot_len (pa_cons (pv 0) pa_nil)) pa_nil)) (pe_callTy (call_list_K (K := K) rfl) (by rfl) (fr_list T) PyProof.Rows.boot_list (pa_cons (pv 0) pa_nil))))), ?_⟩
  obtain ⟨a, xs, rfl, ha, hl, h⟩ := h
  refine ⟨_, rfl, _, _, rfl, .inl (SqL.of ha), by show 1 ≤ sizeLine; decide, fun p hp => ?_⟩
  have s1 : Same H (upd H p (.lst [V.int (xs.length : Nat)])) := same_new hp
  refine ⟨_, rfl, _, _, rfl, .inl (SqL.of (s1 _ _ ha)), fun q hq => ⟨_, _, _, _, rfl, rfl, same_new hq _ _ upd_same, upd_same, ?_, fun z hz => h _ z (s1.trans ((same_new hq).trans (same_new hz))) ((s1.trans (same_new hq)).free hz) upd_same⟩⟩
  show 1 + xs.length ≤ sizeLine
  rw [sizeLine_eq]
  omega
/-- other terms -/
theorem HdAt.set {B H : Hp} {h : Addr} {t : Vamvsa.Table} {r c : Nat} {b : Bool} (Y : HdAt K (newer B H) h t r c b) : ∃ dx ta sl al ll cl, H h = some (.ins (He.ga K "Held") dx (hdF (.ref ta) (.int (r : Nat)) (.int (c : Nat)) (.ref sl) (.ref al) (.ref ll) (.ref cl))) ∧
    ∀ (H' : Hp) (r' c' : Nat), But [h] H H' → H' h = some (.ins (He.ga K "Held") dx (hdF (.ref ta) (.int (r' : Nat)) (.int (c' : Nat)) (.ref sl) (.ref al) (.ref ll) (.ref cl))) → HdAt K (newer B H') h t r' c' b := by
  obtain ⟨dx, ta, sl, al, ll, cl, X, Z⟩ := Y
  obtain ⟨b1, b2⟩ := newer_some X.ins
  have up : ∀ {H' : Hp} {q : Addr} {xs : List V}, But [h] H H' → newer B H q = some (.lst xs) → newer B H' q = some (.lst xs) := fun {H' q xs} bb e => by
    obtain ⟨e1, e2⟩ := newer_some e
    exact newer_of e1 (bb _ _ e2 (by simpa using ne_of e2 b2 (by intro z; cases z)))
  refine ⟨dx, ta, sl, al, ll, cl, b2, fun H' r' c' bb hi => ⟨dx, ta, sl, al, ll, cl, ⟨newer_of b1 hi, X.tb.same (nw_up bb), up bb X.sizes, X.wf⟩, ?_⟩⟩
  cases b with
  | false => exact up bb Z
  | true => exact ⟨up bb Z.1, up bb Z.2.1, up bb Z.2.2⟩
def sp_terms (K : PySem.W.Frag) : Sp := fun vs H Q E => ∃ (h : Addr) (B : Hp) (t : Vamvsa.Table) (r c : Nat) (b : Bool) (r' c' : Int), vs = [.ref h, .int r', .int c'] ∧ HdAt K (newer B H) h t r c b ∧
  (¬ (0 ≤ r' ∧ r' ≤ 1000000) → Rfs K H E (-3)) ∧ ((0 ≤ r' ∧ r' ≤ 1000000) → ¬ (0 ≤ c' ∧ c' ≤ 1000) → Rfs K H E (-4)) ∧
  ((0 ≤ r' ∧ r' ≤ 1000000) → (0 ≤ c' ∧ c' ≤ 1000) → ∀ (H' : Hp) (p : Addr), But [h] H H' → HdAt K (newer B H') h t r'.toNat c'.toNat b → H p = none → H' p = some (.lst [.int 1]) → Q (.ref p) H')
theorem nrange {a b c : Int} : (!(decide (a ≤ b) && decide (b ≤ c))) = false ↔ a ≤ b ∧ b ≤ c := by simp
theorem nrangeT {a b c : Int} : (!(decide (a ≤ b) && decide (b ≤ c))) = true ↔ ¬ (a ≤ b ∧ b ≤ c) := by
  rw [← nrange (a := a) (b := b) (c := c)]
  cases (!(decide (a ≤ b) && decide (b ≤ c))) <;> simp
theorem sc_terms : FnScope ["held", "room", "changes"] ["held", "room", "changes"] (defScope (top 99)) := ⟨rfl, rfl, rfl, by decide +kernel, rfl, by decide +kernel, by decide +kernel⟩
theorem ok_terms (T : Txt K mg) : Def P w K mg base (L2.CX P w) 4 "terms" ["held", "room", "changes"] (sp_terms K) := by
  obtain ⟨fd, F⟩ := fd_terms T
  refine Def.mk' F sc_terms (gl_terms T) (fun vs H Q E h => by obtain ⟨_, _, _, _, _, _, _, _, rfl, _⟩ := h; rfl) (fun _ _ _ _ _ _ us hl => match us, hl with | [_, _, _], _ => rfl) fun cdv A outer s H vs Q E hr h => ?_
  refine ⟨_, pss_cons (ps_expr (Def.callX (ok_refuse_if T) hr (by decide) (takes_of rfl rfl rfl rfl) (pa_cons (pe_not (pe_chain op_le op_le pe_int (pv 1) (pe_gi (in_FIRST_ROOM T)))) (pa_cons (pe_gi (in_OUT T)) pa_nil))))
    (pss_cons (ps_expr (Def.callX (ok_refuse_if T) hr (by decide) (takes_of rfl rfl rfl rfl) (pa_cons (pe_not (pe_chain op_le op_le pe_int (pv 2) (pe_gi (in_MOST_CHANGES T)))) (pa_cons (pe_gi (in_OUT_CHANGES T)) pa_nil))))
    (pss_cons (ps_fld (pv 0) (pv 1) rfl)
    (pss_cons (ps_fld (pv 0) (pv 2) rfl)
    (pss_one (ps_ret (pe_lst (pa_cons pe_int pa_nil))))))), ?_⟩
  obtain ⟨a, B, t, r, c, b, r', c', rfl, Y, h1, h2, h3⟩ := h
  refine ⟨_, rfl, chain2 (fun _ z => z) ⟨_, rfl, _, _, rfl, fun hb => ?_, fun hb => h1 (nrangeT.mp hb)⟩⟩
  have hr1 := nrange.mp hb
  refine ⟨_, rfl, chain2 (fun _ z => z) ⟨_, rfl, _, _, rfl, fun hb => ?_, fun hb => h2 hr1 (nrangeT.mp hb)⟩⟩
  have hc1 := nrange.mp hb
  obtain ⟨n, rfl⟩ : ∃ n : Nat, r' = n := ⟨r'.toNat, by omega⟩
  obtain ⟨m, rfl⟩ : ∃ m : Nat, c' = m := ⟨c'.toNat, by omega⟩
  obtain ⟨dx, ta, sl, al, ll, cl, hi, hs⟩ := Y.set
  refine ⟨_, rfl, _, rfl, _, _, _, _, rfl, hi, cl_Held T, na_Held_room T, (by show 7 < 1000; decide), ?_⟩
  rw [hd_putR]
  refine ⟨_, rfl, _, rfl, _, _, _, _, rfl, upd_same, cl_Held T, na_Held_changes T, (by show 7 < 1000; decide), ?_⟩
  rw [upd_upd, hd_putH]
  refine ⟨by show 1 ≤ sizeLine; decide, fun p hp => ?_⟩
  have b2 : But [a] H (upd (upd H a (.ins (He.ga K "Held") dx (hdF (.ref ta) (.int (n : Nat)) (.int (m : Nat)) (.ref sl) (.ref al) (.ref ll) (.ref cl)))) p (.lst [V.int 1])) := (But.put (by simp)).trans (.of_same (same_new hp))
  refine h3 hr1 hc1 _ p b2 (hs _ n m b2 (same_new hp _ _ upd_same)) ?_ upd_same
  cases q : H p with
  | none => rfl
  | some o =>
    by_cases e : p = a
    · rw [e, upd_same] at hp; cases hp
    · rw [upd_ne e, q] at hp; cases hp
def sp_check_grouping (K : PySem.W.Frag) : Sp := fun vs H Q E => ∃ (h : Addr) (t : Vamvsa.Table) (r c : Nat) (b : Bool) (g : Int), vs = [.ref h, .int g] ∧ HdAt K H h t r c b ∧ (0 ≤ g ∧ g < (mm t : Nat) → Q .non H) ∧ (¬ (0 ≤ g ∧ g < (mm t : Nat)) → Rfs K H E (-2))
theorem sc_check_grouping : FnScope ["held", "grouping"] ["held", "grouping"] (defScope (top 104)) := ⟨rfl, rfl, rfl, by decide +kernel, rfl, by decide +kernel, by decide +kernel⟩
theorem ok_check_grouping (T : Txt K mg) : Def P w K mg base (L2.CX P w) 4 "check_grouping" ["held", "grouping"] (sp_check_grouping K) := by
  obtain ⟨fd, F⟩ := fd_check_grouping T
  refine Def.mk' F sc_check_grouping (gl_check_grouping T) (fun vs H Q E h => by obtain ⟨_, _, _, _, _, _, rfl, _⟩ := h; rfl) (fun _ _ _ _ _ _ us hl => match us, hl with | [_, _], _ => rfl) fun cdv A outer s H vs Q E hr h => ?_
  refine ⟨_, pss_one (ps_expr (Def.callX (ok_refuse_if T) hr (by decide) (takes_of rfl rfl rfl rfl) (pa_cons (pe_not (pe_chain op_le op_lt pe_int (pv 1) (pe_callB call_len_seq (by rfl) (fr_len T) PySem.boot_len (pa_cons (pe_fld (pv 0) rfl) pa_nil)))) (pa_cons (pe_gi (in_NO_SUCH T)) pa_nil)))), ?_⟩
  obtain ⟨a, t, r, c, b, g, rfl, ⟨dx, ta, sl, al, ll, cl, X, _⟩, h1, h2⟩ := h
  refine ⟨_, rfl, chain2 (c := (mm t : Nat)) (fun Q' z => ⟨_, rfl, _, _, _, _, _, rfl, X.ins, cl_Held T, na_Held_sizes T, hd_sizes, _, _, rfl, .inl (SqL.of X.sizes), by rw [sizes_len]; exact z⟩) ⟨_, rfl, _, _, rfl, fun hb => h1 (by simpa using hb), fun hb => h2 fun z => ?_⟩⟩
  rw [decide_eq_true z.1, decide_eq_true z.2] at hb
  cases hb
end
end Bw
set_option Elab.async false
set_option linter.all false
set_option maxRecDepth 100000
set_option maxHeartbeats 4000000
namespace Bw
open PySem PySem.Spec PyProof.Rows L2
section
variable {P : Program} {w : World} {K : PySem.W.Frag} {mg : Str → Option Value} {base : Heap}
open Bk (lb memb sm sz mm asked lines cnt mn rd cf)
/-- an answer: a new list; the table as it was, prepared perhaps -/
def AnsH (K : PySem.W.Frag) (B H : Hp) (Q : VK) (h : Addr) (t : Vamvsa.Table) (r c : Nat) (L : List V) : Prop := ∀ (H' : Hp) (p : Addr), But [h] H H' → HdAt K (newer B H') h t r c true → H p = none → H' p = some (.lst L) → Q (.ref p) H'
theorem But.free {B H H' : Hp} {h p : Addr} {t : Vamvsa.Table} {r c : Nat} {b : Bool} (bb : But [h] H H') (Y : HdAt K (newer B H') h t r c b) (hp : H' p = none) : H p = none := by
  cases q : H p with
  | none => rfl
  | some o =>
    by_cases e : p = h
    · obtain ⟨_, _, _, _, _, _, X, _⟩ := Y
      rw [e, (newer_some X.ins).2] at hp
      cases hp
    · rw [bb p o q (by simpa using e)] at hp
      cases hp
theorem Ext.ans {B H H' : Hp} {h : Addr} {t : Vamvsa.Table} {r c : Nat} {b : Bool} (e : Ext B H) (bb : But [h] H H') (Y : HdAt K (newer B H') h t r c b) : Ext B H' := e.but bb fun x hx q => by
  obtain ⟨_, _, _, _, _, _, X, _⟩ := Y
  rw [List.mem_singleton.mp hx, (newer_some X.ins).2] at q
  cases q
theorem HdAt.up {B H H' : Hp} {h : Addr} {t : Vamvsa.Table} {r c : Nat} {b : Bool} (Y : HdAt K (newer B H) h t r c b) (s : Same H H') : HdAt K (newer B H') h t r c b := Y.same (newer_up s)
theorem HdAt.now {B H : Hp} {h : Addr} {t : Vamvsa.Table} {r c : Nat} {b : Bool} (Y : HdAt K (newer B H) h t r c b) : HdAt K H h t r c b := Y.same (newer_in B H)
theorem memb_len {m k : Nat} : (memb m k).length ≤ m := by
  have := List.length_filter_le (fun g => k.testBit g) (List.range m)
  rw [List.length_range] at this
  exact this
/-- the best set's number -/
def bs (t : Vamvsa.Table) (r c : Nat) : Nat := Bk.bo t c r (mm t) (2 ^ mm t - 1)
theorem bs_lt (t : Vamvsa.Table) (r c : Nat) : bs t r c < 2 ^ mm t := by
  have := Bk.bo_lt (t := t) (c := c) (r := r) (m := mm t) (2 ^ mm t - 1)
  have := Nat.two_pow_pos (mm t)
  unfold bs
  omega
def sp_best_set (K : PySem.W.Frag) : Sp := fun vs H Q _ => ∃ (h : Addr) (B : Hp) (t : Vamvsa.Table) (r c : Nat) (b : Bool), vs = [.ref h] ∧ Ext B H ∧ HdAt K (newer B H) h t r c b ∧ c ≤ 1000 ∧
  ∀ H', But [h] H H' → HdAt K (newer B H') h t r c true → Q (.int (bs t r c : Nat)) H'
theorem sc_best_set : FnScope ["held"] ["held"] (defScope (top 100)) := ⟨rfl, rfl, rfl, by decide +kernel, rfl, by decide +kernel, by decide +kernel⟩
theorem ok_best_set (T : Txt K mg) : Def P w K mg base CX0 4 "best_set" ["held"] (sp_best_set K) := by
  obtain ⟨fd, F⟩ := fd_best_set T
  refine Def.mk' F sc_best_set (gl_best_set T) (fun vs H Q E h => by obtain ⟨_, _, _, _, _, _, rfl, _⟩ := h; rfl) (fun _ _ _ _ _ _ us hl => match us, hl with | [_], _ => rfl) fun cdv A outer s H vs Q E hr h => ?_
  refine ⟨_, PSs.nox (pss_cons (ps_expr (Def.call (ok_prepare T) hr (by decide) (pa_cons (pv 0) pa_nil)))
    (pss_one (ps_ret (Def.call (ok_best_of T) hr (by decide) (pa_cons (pv 0) (pa_cons (pe_fld (pv 0) rfl) (pa_cons (pe_fld (pv 0) rfl) (pa_cons (pe_callB call_len_seq (by rfl) (fr_len T) PySem.boot_len (pa_cons (pe_fld (pv 0) rfl) pa_nil)) pa_nil)))))))), ?_⟩
  obtain ⟨a, B, t, r, c, b, rfl, hE, Y, hc, h⟩ := h
  refine ⟨_, rfl, a, B, t, r, c, b, rfl, hE, Y, fun H1 b1 Y1 => ?_⟩
  obtain ⟨dx, ta, sl, al, ll, cl, X, hal, hll, hcl⟩ := id Y1.now
  refine ⟨_, rfl, _, rfl, _, _, _, _, _, rfl, X.ins, cl_Held T, na_Held_changes T, hd_changes, _, rfl, _, _, _, _, _, rfl, X.ins, cl_Held T, na_Held_room T, hd_room, _, rfl, _, _, _, _, _, rfl, X.ins, cl_Held T, na_Held_sizes T, hd_sizes, _, _, rfl, .inl (SqL.of X.sizes), ?_⟩
  rw [sizes_len]
  exact ⟨a, t, r, c, c, r, mm t, rfl, Y1.now, hc, h H1 b1 Y1⟩
def sp_best (K : PySem.W.Frag) : Sp := fun vs H Q _ => ∃ (h : Addr) (B : Hp) (t : Vamvsa.Table) (r c : Nat) (b : Bool), vs = [.ref h] ∧ Ext B H ∧ HdAt K (newer B H) h t r c b ∧ c ≤ 1000 ∧
  AnsH K B H Q h t r c (natV (Bk.cost t c (bs t r c) :: lines t (bs t r c) :: (memb (mm t) (bs t r c)).length :: memb (mm t) (bs t r c)))
theorem sc_best : FnScope ["held", "kept"] ["held"] (defScope (top 101)) := ⟨rfl, rfl, rfl, by decide +kernel, rfl, by decide +kernel, by decide +kernel⟩
theorem ok_best (T : Txt K mg) : Def P w K mg base CX0 5 "best" ["held"] (sp_best K) := by
  obtain ⟨fd, F⟩ := fd_best T
  refine Def.mk' F sc_best (gl_best T) (fun vs H Q E h => by obtain ⟨_, _, _, _, _, _, rfl, _⟩ := h; rfl) (fun _ _ _ _ _ _ us hl => match us, hl with | [_], _ => rfl) fun cdv A outer s H vs Q E hr h => ?_
  refine ⟨_, PSs.nox (pss_cons (ps_set (i := 1) sc_best.nd rfl (Or.inl rfl) (Def.call (ok_best_set T) hr (by decide) (pa_cons (pv 0) pa_nil)))
    (pss_one (ps_ret (pe_op op_cat (pe_lst (pa_cons (Def.call (ok_cost_of T) hr (by decide) (pa_cons (pv 0) (pa_cons (pv 1) (pa_cons (pe_fld (pv 0) rfl) pa_nil)))) (pa_cons (pe_ix ix_list (pe_fld (pv 0) rfl) (pv 1) (fun _ _ => rfl)) pa_nil))) (Def.call (ok_listed T) hr (by decide) (pa_cons (Def.call (ok_members T) hr (by decide) (pa_cons (pv 0) (pa_cons (pv 1) pa_nil))) pa_nil)))))), ?_⟩
  obtain ⟨a, B, t, r, c, b, rfl, hE, Y, hc, h⟩ := h
  refine ⟨_, rfl, a, B, t, r, c, b, rfl, hE, Y, hc, fun H1 b1 Y1 => ?_⟩
  have hk := bs_lt t r c
  generalize bs t r c = k at h hk ⊢
  obtain ⟨dx, ta, sl, al, ll, cl, X, hal, hll, hcl⟩ := id Y1.now
  refine ⟨_, rfl, _, rfl, _, rfl, _, _, _, _, _, rfl, X.ins, cl_Held T, na_Held_changes T, hd_changes, a, t, r, c, k, c, rfl, Y1.now, hk, hc, ?_⟩
  refine ⟨_, rfl, _, _, _, _, _, rfl, X.ins, cl_Held T, na_Held_lines T, hd_lines, _, rfl, _, _, _, _, rfl, rfl, SqL.of hll, atI_nat (sets_get hk), by show 2 ≤ sizeLine; decide, fun p1 hp1 => ?_⟩
  have s1 : Same H1 (upd H1 p1 (.lst [V.int (Bk.cost t c k : Nat), V.int (lines t k : Nat)])) := same_new hp1
  have hm := mm_le X.wf
  have hml := memb_len (m := mm t) (k := k)
  refine ⟨_, rfl, _, rfl, a, t, r, c, true, k, rfl, Y1.now.same s1, fun H2 p2 s2 hp2 f2 => ?_⟩
  refine ⟨p2, _, rfl, f2, by rw [natV_len]; omega, fun H3 p3 s3 hp3 f3 => ⟨_, _, _, _, rfl, rfl, s3 _ _ (s2 _ _ upd_same), f3, ?_, fun p4 hp4 => ?_⟩⟩
  · rw [List.length_cons, List.length_cons, List.length_cons, natV_len]
    exact small_len (by show 0 + 1 + 1 + _ ≤ _; omega)
  · have s4 := s1.trans (s2.trans (s3.trans (same_new (o := .lst ([V.int (Bk.cost t c k : Nat), V.int (lines t k : Nat)] ++ V.int ((natV (memb (mm t) k)).length : Nat) :: natV (memb (mm t) k))) hp4)))
    refine h _ p4 (b1.trans (.of_same s4)) (Y1.up s4) (b1.free Y1 ((s1.trans (s2.trans s3)).free hp4)) ?_
    rw [upd_same, natV_len]
    rfl
/-- step by step -/
def stp (t : Vamvsa.Table) (r c n : Nat) : List Nat := Bk.sbs t c r n 0
theorem stp_lt (t : Vamvsa.Table) (r c n : Nat) : Bk.setOf (stp t r c n) < 2 ^ mm t := Bk.setOf_lt fun g hg => Bk.sbs_mem _ _ g hg
def sp_steps (K : PySem.W.Frag) : Sp := fun vs H Q _ => ∃ (h : Addr) (B : Hp) (t : Vamvsa.Table) (r c : Nat) (b : Bool), vs = [.ref h] ∧ Ext B H ∧ HdAt K (newer B H) h t r c b ∧ c ≤ 1000 ∧
  AnsH K B H Q h t r c (natV (Bk.cost t c (Bk.setOf (stp t r c (mm t))) :: lines t (Bk.setOf (stp t r c (mm t))) :: (stp t r c (mm t)).length :: stp t r c (mm t)))
theorem sc_steps : FnScope ["held", "some", "kept"] ["held"] (defScope (top 102)) := ⟨rfl, rfl, rfl, by decide +kernel, rfl, by decide +kernel, by decide +kernel⟩
theorem ok_steps (T : Txt K mg) : Def P w K mg base CX0 5 "steps" ["held"] (sp_steps K) := by
  obtain ⟨fd, F⟩ := fd_steps T
  refine Def.mk' F sc_steps (gl_steps T) (fun vs H Q E h => by obtain ⟨_, _, _, _, _, _, rfl, _⟩ := h; rfl) (fun _ _ _ _ _ _ us hl => match us, hl with | [_], _ => rfl) fun cdv A outer s H vs Q E hr h => ?_
  refine ⟨_, PSs.nox (pss_cons (ps_expr (Def.call (ok_prepare T) hr (by decide) (pa_cons (pv 0) pa_nil)))
    (pss_cons (ps_set (i := 1) sc_steps.nd rfl (Or.inl rfl) (Def.call (ok_step_by_step T) hr (by decide) (pa_cons (pv 0) (pa_cons (pe_fld (pv 0) rfl) (pa_cons (pe_fld (pv 0) rfl) (pa_cons (pe_callB call_len_seq (by rfl) (fr_len T) PySem.boot_len (pa_cons (pe_fld (pv 0) rfl) pa_nil)) pa_nil))))))
    (pss_cons (ps_set (i := 2) sc_steps.nd rfl (Or.inl rfl) (Def.call (ok_set_of T) hr (by decide) (pa_cons (pv 1) pa_nil)))
    (pss_one (ps_ret (pe_op op_cat (pe_lst (pa_cons (Def.call (ok_cost_of T) hr (by decide) (pa_cons (pv 0) (pa_cons (pv 2) (pa_cons (pe_fld (pv 0) rfl) pa_nil)))) (pa_cons (pe_ix ix_list (pe_fld (pv 0) rfl) (pv 2) (fun _ _ => rfl)) pa_nil))) (Def.call (ok_listed T) hr (by decide) (pa_cons (pv 1) pa_nil)))))))), ?_⟩
  obtain ⟨a, B, t, r, c, b, rfl, hE, Y, hc, h⟩ := h
  refine ⟨_, rfl, a, B, t, r, c, b, rfl, hE, Y, fun H1 b1 Y1 => ?_⟩
  obtain ⟨dx, ta, sl, al, ll, cl, X, hal, hll, hcl⟩ := id Y1.now
  have hm := mm_le X.wf
  refine ⟨_, rfl, _, rfl, _, _, _, _, _, rfl, X.ins, cl_Held T, na_Held_changes T, hd_changes, _, rfl, _, _, _, _, _, rfl, X.ins, cl_Held T, na_Held_room T, hd_room, _, rfl, _, _, _, _, _, rfl, X.ins, cl_Held T, na_Held_sizes T, hd_sizes, _, _, rfl, .inl (SqL.of X.sizes), ?_⟩
  rw [sizes_len]
  refine ⟨a, t, r, c, c, r, mm t, rfl, Y1.now, hc, by omega, fun H2 p2 s2 hp2 f2 => ?_⟩
  have f2 : H2 p2 = some (.lst (natV (stp t r c (mm t)))) := f2
  have hk := stp_lt t r c (mm t)
  have hl : (stp t r c (mm t)).length ≤ mm t := Bk.sbs_len _ _
  have hg : ∀ g ∈ stp t r c (mm t), g < 16 := fun g hg => Nat.lt_of_lt_of_le (Bk.sbs_mem _ _ g hg) hm
  generalize stp t r c (mm t) = L at h f2 hk hl hg
  refine ⟨_, rfl, p2, L, rfl, SqL.of f2, hg, ?_⟩
  generalize Bk.setOf L = k at h hk ⊢
  have Y2 := Y1.up s2
  obtain ⟨dx, ta, sl, al, ll, cl, X, hal, hll, hcl⟩ := id Y2.now
  refine ⟨_, rfl, _, rfl, _, rfl, _, _, _, _, _, rfl, X.ins, cl_Held T, na_Held_changes T, hd_changes, a, t, r, c, k, c, rfl, Y2.now, hk, hc, ?_⟩
  refine ⟨_, rfl, _, _, _, _, _, rfl, X.ins, cl_Held T, na_Held_lines T, hd_lines, _, rfl, _, _, _, _, rfl, rfl, SqL.of hll, atI_nat (sets_get hk), by show 2 ≤ sizeLine; decide, fun p1 hp1 => ?_⟩
  have s1 : Same H2 (upd H2 p1 (.lst [V.int (Bk.cost t c k : Nat), V.int (lines t k : Nat)])) := same_new hp1
  refine ⟨_, rfl, p2, _, rfl, s1 _ _ f2, by rw [natV_len]; omega, fun H3 p3 s3 hp3 f3 => ⟨_, _, _, _, rfl, rfl, s3 _ _ upd_same, f3, ?_, fun p4 hp4 => ?_⟩⟩
  · rw [List.length_cons, List.length_cons, List.length_cons, natV_len]
    exact small_len (by show 0 + 1 + 1 + _ ≤ _; omega)
  · have s4 := s2.trans (s1.trans (s3.trans (same_new (o := .lst ([V.int (Bk.cost t c k : Nat), V.int (lines t k : Nat)] ++ V.int ((natV L).length : Nat) :: natV L)) hp4)))
    refine h _ p4 (b1.trans (.of_same s4)) (Y1.up s4) (b1.free Y1 ((s2.trans (s1.trans s3)).free hp4)) ?_
    rw [upd_same, natV_len]
    rfl
end
end Bw
set_option Elab.async false
set_option linter.all false
set_option maxRecDepth 100000
set_option maxHeartbeats 4000000
namespace Bw
open PySem PySem.Spec PyProof.Rows L2
section
variable {P : Program} {w : World} {K : PySem.W.Frag} {mg : Str → Option Value} {base : Heap}
open Bk (lb memb sm sz mm asked lines cnt mn rd cf)
/-- all lines -/
def allL (t : Vamvsa.Table) : Nat := lines t (2 ^ mm t - 1)
/-- the best few -/
def fw (t : Vamvsa.Table) (n : Nat) : Nat := Bk.bo t 0 (allL t) n (2 ^ mm t - 1)
theorem fw_lt (t : Vamvsa.Table) (n : Nat) : fw t n < 2 ^ mm t := by
  have := Bk.bo_lt (t := t) (c := 0) (r := allL t) (m := n) (2 ^ mm t - 1)
  have := Nat.two_pow_pos (mm t)
  unfold fw
  omega
def fewL (t : Vamvsa.Table) (n : Nat) : List Nat := Bk.cost t 0 (fw t n) :: (memb (mm t) (fw t n)).length :: memb (mm t) (fw t n) ++ Bk.cost t 0 (Bk.setOf (stp t (allL t) 0 n)) :: (stp t (allL t) 0 n).length :: stp t (allL t) 0 n
theorem sets_last (t : Vamvsa.Table) (f : Nat → Nat) : atI (sets t f) (-1) = some (V.int (f (2 ^ mm t - 1) : Nat)) := atI_neg1 (by rw [sets_len]; exact sets_get (by have := Nat.two_pow_pos (mm t); omega))
def sp_few (K : PySem.W.Frag) : Sp := fun vs H Q E => ∃ (h : Addr) (B : Hp) (t : Vamvsa.Table) (r c : Nat) (b : Bool) (n : Int), vs = [.ref h, .int n] ∧ Ext B H ∧ HdAt K (newer B H) h t r c b ∧
  (¬ (0 ≤ n ∧ n ≤ 4) → Rfs K H E (-3)) ∧ ((0 ≤ n ∧ n ≤ 4) → AnsH K B H Q h t r c (natV (fewL t n.toNat)))
theorem sc_few : FnScope ["held", "many", "room", "kept", "some", "found"] ["held", "many"] (defScope (top 103)) := ⟨rfl, rfl, rfl, by decide +kernel, rfl, by decide +kernel, by decide +kernel⟩
theorem ok_few (T : Txt K mg) : Def P w K mg base (L2.CX P w) 5 "few" ["held", "many"] (sp_few K) := by
  obtain ⟨fd, F⟩ := fd_few T
  refine Def.mk' F sc_few (gl_few T) (fun vs H Q E h => by obtain ⟨_, _, _, _, _, _, _, rfl, _⟩ := h; rfl) (fun _ _ _ _ _ _ us hl => match us, hl with | [_, _], _ => rfl) fun cdv A outer s H vs Q E hr h => ?_
  refine ⟨_, pss_cons (ps_expr (Def.callX (ok_refuse_if T) hr (by decide) (takes_of rfl rfl rfl rfl) (pa_cons (pe_not (pe_chain op_le op_le pe_int (pv 1) (pe_gi (in_MOST_FEW T)))) (pa_cons (pe_gi (in_OUT T)) pa_nil))))
    (pss_cons (ps_expr (Def.call (ok_prepare T) hr (by decide) (pa_cons (pv 0) pa_nil)))
    (pss_cons (ps_set (i := 2) sc_few.nd rfl (Or.inl rfl) (pe_ix ix_list (pe_fld (pv 0) rfl) (pe_un un_neg pe_int) (fun _ _ => rfl)))
    (pss_cons (ps_set (i := 3) sc_few.nd rfl (Or.inl rfl) (Def.call (ok_best_of T) hr (by decide) (pa_cons (pv 0) (pa_cons pe_int (pa_cons (pv 2) (pa_cons (pv 1) pa_nil))))))
    (pss_cons (ps_set (i := 4) sc_few.nd rfl (Or.inl rfl) (Def.call (ok_step_by_step T) hr (by decide) (pa_cons (pv 0) (pa_cons pe_int (pa_cons (pv 2) (pa_cons (pv 1) pa_nil))))))
    (pss_cons (ps_set (i := 5) sc_few.nd rfl (Or.inl rfl) (pe_op op_cat (pe_lst (pa_cons (Def.call (ok_cost_of T) hr (by decide) (pa_cons (pv 0) (pa_cons (pv 3) (pa_cons pe_int pa_nil)))) pa_nil)) (Def.call (ok_listed T) hr (by decide) (pa_cons (Def.call (ok_members T) hr (by decide) (pa_cons (pv 0) (pa_cons (pv 3) pa_nil))) pa_nil))))
    (pss_one (ps_ret (pe_op op_cat (pe_op op_cat (pv 5) (pe_lst (pa_cons (Def.call (ok_cost_of T) hr (by decide) (pa_cons (pv 0) (pa_cons (Def.call (ok_set_of T) hr (by decide) (pa_cons (pv 4) pa_nil)) (pa_cons pe_int pa_nil)))) pa_nil))) (Def.call (ok_listed T) hr (by decide) (pa_cons (pv 4) pa_nil)))))))))), ?_⟩
  obtain ⟨a, B, t, r, c, b, n, rfl, hE, Y, h1, h2⟩ := h
  refine ⟨_, rfl, chain2 (fun _ z => z) ⟨_, rfl, _, _, rfl, fun hb => ?_, fun hb => h1 (nrangeT.mp hb)⟩⟩
  have hn := nrange.mp hb
  have h := h2 hn
  clear h1 h2
  obtain ⟨n, rfl⟩ : ∃ m : Nat, n = m := ⟨n.toNat, by omega⟩
  rw [Int.toNat_natCast] at h
  refine ⟨_, rfl, a, B, t, r, c, b, rfl, hE, Y, fun H1 b1 Y1 => ?_⟩
  obtain ⟨dx, ta, sl, al, ll, cl, X, hal, hll, hcl⟩ := id Y1.now
  have hm := mm_le X.wf
  refine ⟨_, rfl, _, _, _, _, _, rfl, X.ins, cl_Held T, na_Held_lines T, hd_lines, _, rfl, _, _, _, _, rfl, rfl, SqL.of hll, sets_last t (lines t), ?_⟩
  refine ⟨_, rfl, _, rfl, _, rfl, a, t, r, c, 0, allL t, n, rfl, Y1.now, by omega, ?_⟩
  refine ⟨_, rfl, _, rfl, _, rfl, a, t, r, c, 0, allL t, n, rfl, Y1.now, by omega, by omega, fun H2 p2 s2 hp2 f2 => ?_⟩
  have f2 : H2 p2 = some (.lst (natV (stp t (allL t) 0 n))) := f2
  unfold fewL at h
  have hk := stp_lt t (allL t) 0 n
  have hl : (stp t (allL t) 0 n).length ≤ n := Bk.sbs_len _ _
  have hg : ∀ g ∈ stp t (allL t) 0 n, g < 16 := fun g hg => Nat.lt_of_lt_of_le (Bk.sbs_mem _ _ g hg) hm
  generalize stp t (allL t) 0 n = L at h f2 hk hl hg
  have hkb := fw_lt t n
  show tSeq _ _ _ _ _
  have hfw : Bk.bo t 0 (allL t) n (2 ^ mm t - 1) = fw t n := rfl
  rw [hfw]
  generalize fw t n = kb at h hkb ⊢
  have Y2 := Y1.up s2
  have hml := memb_len (m := mm t) (k := kb)
  refine ⟨_, rfl, _, rfl, a, t, r, c, kb, 0, rfl, Y2.now, hkb, by omega, by show 1 ≤ sizeLine; decide, fun p3 hp3 => ?_⟩
  have s3 : Same H2 (upd H2 p3 (.lst [V.int (Bk.cost t 0 kb : Nat)])) := same_new hp3
  refine ⟨_, rfl, _, rfl, a, t, r, c, true, kb, rfl, (Y2.up s3).now, fun H4 p4 s4 hp4 f4 => ⟨p4, _, rfl, f4, by rw [natV_len]; omega, fun H5 p5 s5 hp5 f5 => ⟨_, _, _, _, rfl, rfl, s5 _ _ (s4 _ _ upd_same), f5, ?_, fun p6 hp6 => ?_⟩⟩⟩
  · rw [List.length_cons, List.length_cons, natV_len]
    exact small_len (by show 0 + 1 + _ ≤ _; omega)
  generalize hL6 : ([V.int (Bk.cost t 0 kb : Nat)] ++ V.int ((natV (memb (mm t) kb)).length : Nat) :: natV (memb (mm t) kb)) = L6
  have hL6' : L6 = natV (Bk.cost t 0 kb :: (memb (mm t) kb).length :: memb (mm t) kb) := by rw [← hL6, natV_len]; rfl
  have s6 : Same H2 (upd H5 p6 (.lst L6)) := s3.trans (s4.trans (s5.trans (same_new hp6)))
  have f6 : (upd H5 p6 (.lst L6)) p6 = some (.lst L6) := upd_same
  have hl6 : L6.length ≤ 18 := by rw [hL6', natV_len, List.length_cons, List.length_cons]; omega
  generalize (upd H5 p6 (.lst L6)) = H6 at s6 f6 ⊢
  refine ⟨_, rfl, _, rfl, _, rfl, p2, L, rfl, SqL.of (s6 _ _ f2), hg, a, t, r, c, Bk.setOf L, 0, rfl, (Y2.up s6).now, hk, by omega, by show 1 ≤ sizeLine; decide, fun p7 hp7 => ?_⟩
  have s7 : Same H6 (upd H6 p7 (.lst [V.int (Bk.cost t 0 (Bk.setOf L) : Nat)])) := same_new hp7
  refine ⟨_, _, _, _, rfl, rfl, s7 _ _ f6, upd_same, small_len (by show L6.length + 1 ≤ _; omega), fun p8 hp8 => ?_⟩
  have s8 : Same H6 (upd (upd H6 p7 (.lst [V.int (Bk.cost t 0 (Bk.setOf L) : Nat)])) p8 (.lst (L6 ++ [V.int (Bk.cost t 0 (Bk.setOf L) : Nat)]))) := s7.trans (same_new hp8)
  refine ⟨_, rfl, p2, _, rfl, s8 _ _ (s6 _ _ f2), by rw [natV_len]; omega, fun H9 p9 s9 hp9 f9 => ⟨_, _, _, _, rfl, rfl, s9 _ _ upd_same, f9, ?_, fun pa hpa => ?_⟩⟩
  · rw [List.length_append, List.length_cons, List.length_cons, natV_len]
    exact small_len (by show L6.length + (0 + 1) + _ ≤ _; omega)
  · have sa := s2.trans (s6.trans (s8.trans (s9.trans (same_new (o := .lst ((L6 ++ [V.int (Bk.cost t 0 (Bk.setOf L) : Nat)]) ++ V.int ((natV L).length : Nat) :: natV L)) hpa))))
    refine h _ pa (b1.trans (.of_same sa)) (Y1.up sa) (b1.free Y1 ((s2.trans (s6.trans (s8.trans s9))).free hpa)) ?_
    rw [upd_same, natV_len, hL6', natV_append, List.append_assoc]
    rfl
def priceL (t : Vamvsa.Table) (r c k : Nat) : List Nat := [Bk.cost t c k, lines t k, asked t k, 2 * c * cnt t k, if lines t k ≤ r then 1 else 0]
def sp_price (K : PySem.W.Frag) : Sp := fun vs H Q E => ∃ (h a : Addr) (B : Hp) (t : Vamvsa.Table) (r c : Nat) (b : Bool) (zs : List Int), vs = [.ref h, .ref a] ∧ Ext B H ∧ HdAt K (newer B H) h t r c b ∧ c ≤ 1000 ∧ H a = some (.lst (zs.map V.int)) ∧
  ((∃ z ∈ zs, ¬ (0 ≤ z ∧ z < (mm t : Nat))) → Rfs K H E (-2)) ∧ ((∀ z ∈ zs, 0 ≤ z ∧ z < (mm t : Nat)) → AnsH K B H Q h t r c (natV (priceL t r c (Bk.setOf (zs.map Int.toNat)))))
theorem sc_price : FnScope ["held", "some", "grouping", "kept", "found"] ["held", "some"] (defScope (top 105)) := ⟨rfl, rfl, rfl, by decide +kernel, rfl, by decide +kernel, by decide +kernel⟩
theorem ok_price (T : Txt K mg) : Def P w K mg base (L2.CX P w) 5 "price" ["held", "some"] (sp_price K) := by
  obtain ⟨fd, F⟩ := fd_price T
  refine Def.mk' F sc_price (gl_price T) (fun vs H Q E h => by obtain ⟨_, _, _, _, _, _, _, _, rfl, _⟩ := h; rfl) (fun _ _ _ _ _ _ us hl => match us, hl with | [_, _], _ => rfl) fun cdv A outer s H vs Q E hr h => ?_
  refine ⟨_, pss_cons (ps_for (passes_of rfl) rfl (pi_list (pv 1)) (pg_name (i := 2) sc_price.nd rfl (Or.inl rfl))
      (pss_one (ps_expr (Def.callX (ok_check_grouping T) hr (by decide) (takes_of rfl rfl rfl rfl) (pa_cons (pv 0) (pa_cons (pv 2) pa_nil))))))
    (pss_cons (ps_expr (Def.call (ok_prepare T) hr (by decide) (pa_cons (pv 0) pa_nil)))
    (pss_cons (ps_set (i := 3) sc_price.nd rfl (Or.inl rfl) (Def.call (ok_set_of T) hr (by decide) (pa_cons (pv 1) pa_nil)))
    (pss_cons (ps_set (i := 4) sc_price.nd rfl (Or.inl rfl) (pe_lst (pa_cons (Def.call (ok_cost_of T) hr (by decide) (pa_cons (pv 0) (pa_cons (pv 3) (pa_cons (pe_fld (pv 0) rfl) pa_nil)))) (pa_cons (pe_ix ix_list (pe_fld (pv 0) rfl) (pv 3) (fun _ _ => rfl)) (pa_cons (pe_ix ix_list (pe_fld (pv 0) rfl) (pv 3) (fun _ _ => rfl)) pa_nil)))))
    (pss_one (ps_ret (pe_op op_cat (pv 4) (pe_lst (pa_cons (Def.call (ok_changes_cost T) hr (by decide) (pa_cons (pv 0) (pa_cons (pv 3) (pa_cons (pe_fld (pv 0) rfl) pa_nil)))) (pa_cons (pe_callTy call_int1 (by rfl) (fr_int T) PyProof.Rows.boot_int (pa_cons (pe_cmpR op_le (pe_ix ix_list (pe_fld (pv 0) rfl) (pv 3) (fun _ _ => rfl)) (pe_fld (pv 0) rfl) (nomark _)) pa_nil)) pa_nil))))))))), ?_⟩
  obtain ⟨a, la, B, t, r, c, b, zs, rfl, hE, Y, hc, hla, h1, h2⟩ := h
  refine ⟨_, rfl, _, rfl, ⟨_, SqL.of hla⟩, ?_⟩
  refine for_list (xs := zs.map V.int) (fun i σ H' => ∃ v, σ = [some (.ref a), some (.ref la), v, none, none] ∧ H' = H ∧ ∀ z ∈ zs.take i, 0 ≤ z ∧ z < (mm t : Nat)) ⟨_, rfl, rfl, by simp⟩ (fun i σ H' _ ⟨_, _, e, _⟩ => by rw [e]; exact SqL.of hla) ?_ ?_
  · rintro i x σ H1 hx ⟨v, rfl, rfl, hz⟩
    have hi : i < zs.length := by
      have := (List.getElem?_eq_some_iff.mp hx).1
      rw [List.length_map] at this
      exact this
    have hci : zs[i]? = some zs[i] := List.getElem?_eq_getElem hi
    have hx : x = V.int zs[i] := by rw [List.getElem?_map, hci] at hx; exact (Option.some.inj hx).symm
    subst hx
    have hzm := List.getElem_mem hi
    rw [take_snoc hci]
    generalize zs[i] = z at hzm
    refine ⟨_, rfl, _, rfl, a, t, r, c, b, z, rfl, Y.now, fun hr => ⟨_, rfl, rfl, fun y hy => ?_⟩, fun hr => h1 ⟨z, hzm, hr⟩⟩
    rcases List.mem_append.mp hy with q | q
    · exact hz y q
    · rw [List.mem_singleton.mp q]; exact hr
  · rintro σ H1 ⟨v, rfl, rfl, hz⟩
    rw [List.length_map, List.take_length] at hz
    have h := h2 hz
    clear h1 h2
    have hzn : zs.map V.int = natV (zs.map Int.toNat) := by
      unfold natV
      rw [List.map_map]
      refine List.map_congr_left fun z q => ?_
      show V.int z = V.int (z.toNat : Nat)
      rw [Int.toNat_of_nonneg (hz z q).1]
    rw [hzn] at hla
    have hlg : ∀ g ∈ zs.map Int.toNat, g < mm t := fun g q => by
      obtain ⟨z, hzq, rfl⟩ := List.mem_map.mp q
      have := hz z hzq
      omega
    generalize zs.map Int.toNat = l at h hla hlg
    have hk := Bk.setOf_lt hlg
    refine ⟨_, rfl, a, B, t, r, c, b, rfl, hE, Y, fun H2 b2 Y2 => ?_⟩
    have hne : la ≠ a := by
      obtain ⟨_, _, _, _, _, _, X, _⟩ := Y.now
      exact ne_of hla X.ins (by intro z; cases z)
    have hla2 := b2 _ _ hla (by simpa using hne)
    obtain ⟨dx, ta, sl, al, ll, cl, X, hal, hll, hcl⟩ := id Y2.now
    have hm := mm_le X.wf
    refine ⟨_, rfl, la, l, rfl, SqL.of hla2, fun g q => Nat.lt_of_lt_of_le (hlg g q) hm, ?_⟩
    generalize Bk.setOf l = k at h hk ⊢
    refine ⟨_, rfl, _, rfl, _, rfl, _, _, _, _, _, rfl, X.ins, cl_Held T, na_Held_changes T, hd_changes, a, t, r, c, k, c, rfl, Y2.now, hk, hc, ?_⟩
    refine ⟨_, rfl, _, _, _, _, _, rfl, X.ins, cl_Held T, na_Held_lines T, hd_lines, _, rfl, _, _, _, _, rfl, rfl, SqL.of hll, atI_nat (sets_get hk), ?_⟩
    refine ⟨_, rfl, _, _, _, _, _, rfl, X.ins, cl_Held T, na_Held_asked T, hd_asked, _, rfl, _, _, _, _, rfl, rfl, SqL.of hal, atI_nat (sets_get hk), by show 3 ≤ sizeLine; decide, fun p3 hp3 => ?_⟩
    have s3 : Same H2 (upd H2 p3 (.lst [V.int (Bk.cost t c k : Nat), V.int (lines t k : Nat), V.int (asked t k : Nat)])) := same_new hp3
    have f3 : (upd H2 p3 (.lst [V.int (Bk.cost t c k : Nat), V.int (lines t k : Nat), V.int (asked t k : Nat)])) p3 = some (.lst [V.int (Bk.cost t c k : Nat), V.int (lines t k : Nat), V.int (asked t k : Nat)]) := upd_same
    generalize (upd H2 p3 (.lst [V.int (Bk.cost t c k : Nat), V.int (lines t k : Nat), V.int (asked t k : Nat)])) = H3 at s3 f3 ⊢
    have X3 := X.same s3
    refine ⟨_, rfl, _, rfl, _, rfl, _, rfl, _, _, _, _, _, rfl, X3.ins, cl_Held T, na_Held_changes T, hd_changes, a, t, r, c, k, c, rfl, (Y2.up s3).now, hk, hc, ?_⟩
    refine ⟨_, rfl, _, _, _, _, _, rfl, X3.ins, cl_Held T, na_Held_lines T, hd_lines, _, rfl, _, _, _, _, rfl, rfl, SqL.of (s3 _ _ hll), atI_nat (sets_get hk), _, rfl, _, _, _, _, _, rfl, X3.ins, cl_Held T, na_Held_room T, hd_room, _, _, rfl, rfl, .inr ⟨_, rfl, by show 2 ≤ sizeLine; decide, fun p4 hp4 => ?_⟩⟩
    refine ⟨_, _, _, _, rfl, rfl, same_new hp4 _ _ f3, upd_same, by show 3 + 2 ≤ sizeLine; decide, fun p5 hp5 => ?_⟩
    have s5 := s3.trans ((same_new (o := .lst [V.int (2 * c * cnt t k : Nat), V.int (if decide ((lines t k : Int) ≤ (r : Int)) = true then 1 else 0)]) hp4).trans (same_new (o := .lst ([V.int (Bk.cost t c k : Nat), V.int (lines t k : Nat), V.int (asked t k : Nat)] ++ [V.int (2 * c * cnt t k : Nat), V.int (if decide ((lines t k : Int) ≤ (r : Int)) = true then 1 else 0)])) hp5))
    refine h _ p5 (b2.trans (.of_same s5)) (Y2.up s5) (b2.free Y2 ((s3.trans (same_new hp4)).free hp5)) ?_
    rw [upd_same]
    have e : (if decide ((lines t k : Int) ≤ (r : Int)) = true then (1 : Int) else 0) = ((if lines t k ≤ r then 1 else 0 : Nat) : Int) := by
      by_cases q : lines t k ≤ r
      · rw [decide_eq_true (by omega), if_pos q]; rfl
      · rw [decide_eq_false (by omega), if_neg q]; rfl
    rw [e]
    rfl
end
end Bw
set_option Elab.async false
set_option linter.all false
set_option maxRecDepth 100000
set_option maxHeartbeats 4000000
namespace Bw
open PySem PySem.Spec PyProof.Rows L2
section
variable {P : Program} {w : World} {K : PySem.W.Frag} {mg : Str → Option Value} {base : Heap}
open Bk (lb memb sm sz mm asked lines cnt mn rd cf)
def whyI (t : Vamvsa.Table) (r c g : Nat) : List Int :=
  if (bs t r c).testBit g = true then 1 :: ((Bk.cost t c (bs t r c - 2 ^ g) : Int) - (Bk.cost t c (bs t r c) : Int)) :: ((Vamvsb.readersOf t (memb (mm t) (bs t r c)) g).length : Int) :: (Vamvsb.readersOf t (memb (mm t) (bs t r c)) g).map fun (n : Nat) => (n : Int)
  else [0, (Bk.cost t c (bs t r c ||| 2 ^ g) : Int) - (Bk.cost t c (bs t r c) : Int), ((if lines t (bs t r c ||| 2 ^ g) ≤ r then 1 else 0 : Nat) : Int)]
theorem readers_len (t : Vamvsa.Table) (l : List Nat) (g : Nat) : (Vamvsb.readersOf t l g).length ≤ t.asks.length := by
  unfold Vamvsb.readersOf
  have := List.length_filter_le (fun i => (t.asks[i]?).any fun a => Vamvsa.reader t l a.g == some g) (List.range t.asks.length)
  rw [List.length_range] at this
  exact this
def sp_why (K : PySem.W.Frag) : Sp := fun vs H Q E => ∃ (h : Addr) (B : Hp) (t : Vamvsa.Table) (r c : Nat) (b : Bool) (g : Int), vs = [.ref h, .int g] ∧ Ext B H ∧ HdAt K (newer B H) h t r c b ∧ c ≤ 1000 ∧
  (¬ (0 ≤ g ∧ g < (mm t : Nat)) → Rfs K H E (-2)) ∧ ((0 ≤ g ∧ g < (mm t : Nat)) → AnsH K B H Q h t r c ((whyI t r c g.toNat).map V.int))
theorem sc_why : FnScope ["held", "grouping", "kept", "cost", "without", "more"] ["held", "grouping"] (defScope (top 106)) := ⟨rfl, rfl, rfl, by decide +kernel, rfl, by decide +kernel, by decide +kernel⟩
theorem ok_why (T : Txt K mg) : Def P w K mg base (L2.CX P w) 5 "why" ["held", "grouping"] (sp_why K) := by
  obtain ⟨fd, F⟩ := fd_why T
  refine Def.mk' F sc_why (gl_why T) (fun vs H Q E h => by obtain ⟨_, _, _, _, _, _, _, rfl, _⟩ := h; rfl) (fun _ _ _ _ _ _ us hl => match us, hl with | [_, _], _ => rfl) fun cdv A outer s H vs Q E hr h => ?_
  refine ⟨_, pss_cons (ps_expr (Def.callX (ok_check_grouping T) hr (by decide) (takes_of rfl rfl rfl rfl) (pa_cons (pv 0) (pa_cons (pv 1) pa_nil))))
    (pss_cons (ps_set (i := 2) sc_why.nd rfl (Or.inl rfl) (Def.call (ok_best_set T) hr (by decide) (pa_cons (pv 0) pa_nil)))
    (pss_cons (ps_set (i := 3) sc_why.nd rfl (Or.inl rfl) (Def.call (ok_cost_of T) hr (by decide) (pa_cons (pv 0) (pa_cons (pv 2) (pa_cons (pe_fld (pv 0) rfl) pa_nil)))))
    (pss_cons (ps_if (pt_cmpR op_eq (pe_op op_and (pe_op op_shr (pv 2) (pv 1)) pe_int) pe_int (nomark _))
      (pss_cons (ps_set (i := 4) sc_why.nd rfl (Or.inl rfl) (pe_op op_sub (pv 2) (pe_op op_shl pe_int (pv 1))))
      (pss_one (ps_ret (pe_op op_cat (pe_lst (pa_cons pe_int (pa_cons (pe_op op_sub (Def.call (ok_cost_of T) hr (by decide) (pa_cons (pv 0) (pa_cons (pv 4) (pa_cons (pe_fld (pv 0) rfl) pa_nil)))) (pv 3)) pa_nil))) (Def.call (ok_listed T) hr (by decide) (pa_cons (Def.call (ok_readers_of T) hr (by decide) (pa_cons (pv 0) (pa_cons (pv 2) (pa_cons (pv 1) pa_nil)))) pa_nil))))))
      (pss_nil))
    (pss_cons (ps_set (i := 5) sc_why.nd rfl (Or.inl rfl) (pe_op op_or (pv 2) (pe_op op_shl pe_int (pv 1))))
    (pss_one (ps_ret (pe_lst (pa_cons pe_int (pa_cons (pe_op op_sub (Def.call (ok_cost_of T) hr (by decide) (pa_cons (pv 0) (pa_cons (pv 5) (pa_cons (pe_fld (pv 0) rfl) pa_nil)))) (pv 3)) (pa_cons (pe_callTy call_int1 (by rfl) (fr_int T) PyProof.Rows.boot_int (pa_cons (pe_cmpR op_le (pe_ix ix_list (pe_fld (pv 0) rfl) (pv 5) (fun _ _ => rfl)) (pe_fld (pv 0) rfl) (nomark _)) pa_nil)) pa_nil)))))))))), ?_⟩
  obtain ⟨a, B, t, r, c, b, g, rfl, hE, Y, hc, h1, h2⟩ := h
  refine ⟨_, rfl, _, rfl, a, t, r, c, b, g, rfl, Y.now, fun hr => ?_, h1⟩
  have h := h2 hr
  clear h1 h2
  obtain ⟨g, rfl⟩ : ∃ m : Nat, g = m := ⟨g.toNat, by omega⟩
  rw [Int.toNat_natCast] at h
  have hg : g < mm t := by omega
  unfold whyI at h
  refine ⟨_, rfl, a, B, t, r, c, b, rfl, hE, Y, hc, fun H1 b1 Y1 => ?_⟩
  have hk := bs_lt t r c
  generalize bs t r c = k at h hk ⊢
  obtain ⟨dx, ta, sl, al, ll, cl, X, hal, hll, hcl⟩ := id Y1.now
  have hm := mm_le X.wf
  refine ⟨_, rfl, _, rfl, _, rfl, _, _, _, _, _, rfl, X.ins, cl_Held T, na_Held_changes T, hd_changes, a, t, r, c, k, c, rfl, Y1.now, hk, hc, ?_⟩
  refine ⟨_, rfl, _, rfl, _, _, rfl, rfl, Int.natCast_nonneg _, _, _, rfl, rfl, rfl, _, rfl, ifB (bit_is k g) (fun bt => ?_) fun bt => ?_⟩
  · rw [if_pos bt] at h
    have hge := Bk.two_pow_le_of_bit bt
    refine ⟨_, rfl, _, rfl, _, _, rfl, rfl, cpow (by omega), _, _, rfl, rfl, ?_⟩
    dsimp only
    rw [sub_int hge]
    have hk' : k - 2 ^ g < 2 ^ mm t := Nat.lt_of_le_of_lt (Nat.sub_le _ _) hk
    refine ⟨_, rfl, _, rfl, _, rfl, _, _, _, _, _, rfl, X.ins, cl_Held T, na_Held_changes T, hd_changes, a, t, r, c, k - 2 ^ g, c, rfl, Y1.now, hk', hc, _, rfl, _, _, rfl, rfl, by show 2 ≤ sizeLine; decide, fun p1 hp1 => ?_⟩
    have s1 : Same H1 (upd H1 p1 (.lst [V.int 1, V.int ((Bk.cost t c (k - 2 ^ g) : Int) - (Bk.cost t c k : Int))])) := same_new hp1
    have hrl := readers_len t (memb (mm t) k) g
    have hwa := X.wf.wa
    refine ⟨_, rfl, _, rfl, _, rfl, a, t, r, c, true, k, g, rfl, (Y1.up s1).now, fun H2 p2 s2 hp2 f2 => ⟨p2, _, rfl, f2, by rw [natV_len]; omega, fun H3 p3 s3 hp3 f3 => ⟨_, _, _, _, rfl, rfl, s3 _ _ (s2 _ _ upd_same), f3, ?_, fun p4 hp4 => ?_⟩⟩⟩
    · rw [List.length_cons, List.length_cons, List.length_cons, natV_len]
      exact small_len (by show 0 + 1 + 1 + _ ≤ _; omega)
    · have s4 := s1.trans (s2.trans (s3.trans (same_new (o := .lst ([V.int 1, V.int ((Bk.cost t c (k - 2 ^ g) : Int) - (Bk.cost t c k : Int))] ++ V.int ((natV (Vamvsb.readersOf t (memb (mm t) k) g)).length : Nat) :: natV (Vamvsb.readersOf t (memb (mm t) k) g))) hp4)))
      refine h _ p4 (b1.trans (.of_same s4)) (Y1.up s4) (b1.free Y1 ((s1.trans (s2.trans s3)).free hp4)) ?_
      rw [upd_same, natV_len, List.map_cons, List.map_cons, List.map_cons, ← natV_ints]
      rfl
  · rw [if_neg (by rw [bt]; simp)] at h
    refine ⟨_, rfl, _, rfl, _, _, rfl, rfl, cpow (by omega), _, _, rfl, rfl, ?_⟩
    dsimp only
    rw [shl1, or_nat]
    have hk' : k ||| 2 ^ g < 2 ^ mm t := Bk.or_lt hk hg
    refine ⟨_, rfl, _, rfl, _, rfl, _, _, _, _, _, rfl, X.ins, cl_Held T, na_Held_changes T, hd_changes, a, t, r, c, k ||| 2 ^ g, c, rfl, Y1.now, hk', hc, _, rfl, _, _, rfl, rfl, ?_⟩
    refine ⟨_, rfl, _, _, _, _, _, rfl, X.ins, cl_Held T, na_Held_lines T, hd_lines, _, rfl, _, _, _, _, rfl, rfl, SqL.of hll, atI_nat (sets_get hk'), _, rfl, _, _, _, _, _, rfl, X.ins, cl_Held T, na_Held_room T, hd_room, _, _, rfl, rfl, .inr ⟨_, rfl, by show 3 ≤ sizeLine; decide, fun p4 hp4 => ?_⟩⟩
    have s4 := same_new (o := .lst [V.int 0, V.int ((Bk.cost t c (k ||| 2 ^ g) : Int) - (Bk.cost t c k : Int)), V.int (if decide ((lines t (k ||| 2 ^ g) : Int) ≤ (r : Int)) = true then 1 else 0)]) hp4
    refine h _ p4 (b1.trans (.of_same s4)) (Y1.up s4) (b1.free Y1 hp4) ?_
    rw [upd_same]
    have e : (if decide ((lines t (k ||| 2 ^ g) : Int) ≤ (r : Int)) = true then (1 : Int) else 0) = ((if lines t (k ||| 2 ^ g) ≤ r then 1 else 0 : Nat) : Int) := by
      by_cases q : lines t (k ||| 2 ^ g) ≤ r
      · rw [decide_eq_true (by omega), if_pos q]; rfl
      · rw [decide_eq_false (by omega), if_neg q]; rfl
    rw [e]
    rfl
def curveL (t : Vamvsa.Table) (c : Nat) : List Nat := (Vamvsb.curve t ⟨0, c⟩).length :: (Vamvsb.curve t ⟨0, c⟩).flatMap fun x => [x.1, x.2]
def sp_curve (K : PySem.W.Frag) : Sp := fun vs H Q _ => ∃ (h : Addr) (B : Hp) (t : Vamvsa.Table) (r c : Nat) (b : Bool), vs = [.ref h] ∧ Ext B H ∧ HdAt K (newer B H) h t r c b ∧ c ≤ 1000 ∧ AnsH K B H Q h t r c (natV (curveL t c))
theorem sc_curve : FnScope ["held", "some", "found", "room", "cost"] ["held"] (defScope (top 107)) := ⟨rfl, rfl, rfl, by decide +kernel, rfl, by decide +kernel, by decide +kernel⟩
theorem ok_curve (T : Txt K mg) : Def P w K mg base CX0 4 "curve" ["held"] (sp_curve K) := by
  obtain ⟨fd, F⟩ := fd_curve T
  refine Def.mk' F sc_curve (gl_curve T) (fun vs H Q E h => by obtain ⟨_, _, _, _, _, _, rfl, _⟩ := h; rfl) (fun _ _ _ _ _ _ us hl => match us, hl with | [_], _ => rfl) fun cdv A outer s H vs Q E hr h => ?_
  refine ⟨_, PSs.nox (pss_cons (ps_expr (Def.call (ok_prepare T) hr (by decide) (pa_cons (pv 0) pa_nil)))
    (pss_cons (ps_set (i := 1) sc_curve.nd rfl (Or.inl rfl) (Def.call (ok_rooms_that_bring T) hr (by decide) (pa_cons (pv 0) (pa_cons (pe_fld (pv 0) rfl) pa_nil))))
    (pss_cons (ps_set (i := 2) sc_curve.nd rfl (Or.inl rfl) (pe_lst (pa_cons (pe_callB call_len_seq (by rfl) (fr_len T) PySem.boot_len (pa_cons (pv 1) pa_nil)) pa_nil)))
    (pss_cons (ps_for PassesOwn.never rfl (pi_list (pv 1)) (pg_tup rfl (pgs_cons (pg_name (i := 3) sc_curve.nd rfl (Or.inl rfl)) (pgs_cons (pg_name (i := 4) sc_curve.nd rfl (Or.inl rfl)) pgs_nil)))
      (pss_one (ps_expr (pe_bm PySem.F.plainAttrs_list PySem.F.slot_list_extend PySem.F.type_list_extend mt_extend (pv 2) (pa_cons (pe_lst (pa_cons (pv 3) (pa_cons (pv 4) pa_nil))) pa_nil)))))
    (pss_one (ps_ret (pv 2))))))), ?_⟩
  obtain ⟨a, B, t, r, c, b, rfl, hE, Y, hc, h⟩ := h
  refine ⟨_, rfl, a, B, t, r, c, b, rfl, hE, Y, fun H1 b1 Y1 => ?_⟩
  obtain ⟨dx, ta, sl, al, ll, cl, X, hal, hll, hcl⟩ := id Y1.now
  refine ⟨_, rfl, _, rfl, _, _, _, _, _, rfl, X.ins, cl_Held T, na_Held_changes T, hd_changes, a, t, r, c, c, rfl, Y1.now, hc, fun H2 p2 s2 hp2 ⟨as, f2, hal2⟩ hlen => ?_⟩
  unfold curveL at h
  generalize Vamvsb.curve t ⟨0, c⟩ = L at h hal2 hlen
  have hla := hal2.len
  refine ⟨_, rfl, _, _, rfl, .inl (SqL.of f2), by show 1 ≤ sizeLine; decide, fun D hD => ?_⟩
  rw [List.length_map, hla]
  have hD0 : H1 D = none := s2.free hD
  refine ⟨_, rfl, _, rfl, ⟨_, SqL.of (same_new hD _ _ f2)⟩, ?_⟩
  refine for_list (xs := as.map V.ref) (fun i σ H' => ∃ u v, σ = [some (.ref a), some (.ref p2), some (.ref D), u, v] ∧ (∀ e o, H2 e = some o → H' e = some o) ∧ H' D = some (.lst (natV (L.length :: (L.take i).flatMap fun x => [x.1, x.2]))))
    ⟨_, _, rfl, same_new hD, upd_same⟩ (fun i σ H' _ ⟨_, _, _, s, _⟩ => SqL.of (s _ _ f2)) ?_ ?_
  · rintro i x σ H3 hx ⟨u, v, rfl, s3, hD3⟩
    have hi : i < L.length := by
      have := (List.getElem?_eq_some_iff.mp hx).1
      rw [List.length_map, hla] at this
      exact this
    have hci : L[i]? = some L[i] := List.getElem?_eq_getElem hi
    obtain ⟨qp, hqp, hqt⟩ := hal2.get hci
    have hx : x = V.ref qp := by rw [List.getElem?_map, hqp] at hx; exact (Option.some.inj hx).symm
    subst hx
    have hqt : H2 qp = some (.tup [V.int ((L[i]).1 : Nat), V.int ((L[i]).2 : Nat)]) := hqt
    rw [take_snoc hci, List.flatMap_append]
    generalize L[i] = y at hqt
    refine ⟨qp, _, rfl, SqT.of (s3 _ _ hqt), rfl, _, _, rfl, _, _, rfl, rfl, ?_⟩
    refine ⟨_, rfl, .inl ⟨rfl, _, SqL.of hD3⟩, _, rfl, _, rfl, by show 2 ≤ sizeLine; decide, fun q hq => ?_⟩
    have hDq : D ≠ q := fun z => by rw [← z, hD3] at hq; cases hq
    refine ⟨_, _, _, _, rfl, rfl, (upd_ne hDq).trans hD3, upd_same, ?_, _, _, rfl, ?_, ?_⟩
    · rw [natV_len, List.length_cons]
      have hfl : ∀ l : List (Nat × Nat), (l.flatMap fun x => [x.1, x.2]).length = l.length * 2 := by
        intro l
        induction l with
        | nil => rfl
        | cons z l ih => simp only [List.flatMap_cons, List.length_append, ih, List.length_cons, List.length_nil]; omega
      rw [hfl, List.length_take, sizeLine_eq]
      show min i L.length * 2 + 1 + 2 ≤ _
      omega
    · exact fun e o z => by rw [upd_ne (ne_of_none z hD), upd_ne (ne_of_none (s3 _ _ z) hq)]; exact s3 _ _ z
    · rw [upd_same, ← List.cons_append, natV_append]
      rfl
  · rintro σ H3 ⟨u, v, rfl, s3, hD3⟩
    rw [List.length_map, hla, List.take_length] at hD3
    exact ⟨_, rfl, h H3 D (b1.trans (.of_same (s2.trans s3))) (Y1.up (s2.trans s3)) (b1.free Y1 hD0) hD3⟩
end
end Bw
set_option Elab.async false
set_option linter.all false
set_option maxRecDepth 100000
set_option maxHeartbeats 4000000
namespace Bw
open PySem PySem.Spec PyProof.Rows L2
section
variable {P : Program} {w : World} {K : PySem.W.Frag} {mg : Str → Option Value} {base : Heap}
open VamvsBase (Bytes)
open Vamvsa (read)
def dkF (v : V) : List (Str × V) := [("held", v)]
/-- what is old: the desk, the list of answers too -/
abbrev xB (B : Hp) (dk D : Addr) : Hp := upd (upd B dk (.own dk)) D (.own D)
/-- what a desk holds -/
def DkV (K : PySem.W.Frag) (B H : Hp) (dk D : Addr) : Vamvsb.Obj → V → Prop
  | none, v => v = .non
  | some z, v => ∃ h b, v = .ref h ∧ HdAt K (newer (xB B dk D) H) h z.t z.m.room z.m.changes b ∧ z.m.changes ≤ 1000
structure DkAt (K : PySem.W.Frag) (B H : Hp) (dk D : Addr) (o : Vamvsb.Obj) : Prop where
  same : Same B H
  nb : B dk = none
  nd : B D = none
  lst : ∃ xs, H D = some (.lst xs)
  ins : ∃ ddx v, H dk = some (.ins (He.ga K "Desk") ddx (dkF v)) ∧ DkV K B H dk D o v
theorem DkV.up {B H H' : Hp} {dk D : Addr} {o : Vamvsb.Obj} {v : V} (h : DkV K B H dk D o v) (s : Same (newer (xB B dk D) H) (newer (xB B dk D) H')) : DkV K B H' dk D o v := by
  cases o with
  | none => exact h
  | some z =>
    obtain ⟨a, b, h1, h2, h3⟩ := h
    exact ⟨a, b, h1, h2.same s, h3⟩
theorem DkAt.up {B H H' : Hp} {dk D : Addr} {o : Vamvsb.Obj} (X : DkAt K B H dk D o) (s : Same H H') : DkAt K B H' dk D o := by
  obtain ⟨h1, h2, n2, ⟨xs, l2⟩, ddx, v, h3, h4⟩ := X
  exact ⟨h1.trans s, h2, n2, ⟨xs, s _ _ l2⟩, ddx, v, s _ _ h3, h4.up (newer_up s)⟩
theorem DkAt.ext {B H : Hp} {dk D : Addr} {o : Vamvsb.Obj} (X : DkAt K B H dk D o) : Ext (xB B dk D) H := fun a ha => by
  obtain ⟨h1, h2, n2, ⟨xs, l2⟩, ddx, v, h3, h4⟩ := X
  have hne : a ≠ dk := fun e => by rw [e, h3] at ha; cases ha
  have hnd : a ≠ D := fun e => by rw [e, l2] at ha; cases ha
  rw [xB, upd_ne hnd, upd_ne hne]
  exact h1.free ha
/-- lists stay -/
def KeepL (H H' : Hp) : Prop := ∀ a xs, H a = some (.lst xs) → H' a = some (.lst xs)
theorem KeepL.of_same {H H' : Hp} (s : Same H H') : KeepL H H' := fun a xs h => s _ _ h
theorem KeepL.trans {H H1 H2 : Hp} (a : KeepL H H1) (b : KeepL H1 H2) : KeepL H H2 := fun c xs h => b _ _ (a _ _ h)
theorem fx_code {c wh : V} : (fxd c wh).lookup ("code" : Str) = some c := by kernel_rfl
theorem fx_where {c wh : V} : (fxd c wh).lookup ("where" : Str) = some wh := by kernel_rfl
theorem dk_put (v u : V) : putF "held" u (dkF v) = dkF u := by kernel_rfl
theorem dk_held {v : V} : (dkF v).lookup ("held" : Str) = some v := by kernel_rfl
def sp_load (K : PySem.W.Frag) : Sp := fun vs H Q _ => ∃ (dk dl a : Addr) (B : Hp) (b : Bytes) (o : Vamvsb.Obj), vs = [.ref dk, .ref a] ∧ DkAt K B H dk dl o ∧ H a = some (.lst ((byV b).map V.int)) ∧ b.length ≤ 10000 ∧
  (∀ t, read b = .ok t → ∀ (H' : Hp) (p : Addr), KeepL H H' → DkAt K B H' dk dl (some ⟨t, Vamvsb.free⟩) → H p = none → H' p = some (.lst (natV [1, t.cols.length, t.rows.length, t.asks.length])) → Q (.ref p) H') ∧
  (∀ f, read b = .error f → ∀ (H' : Hp) (p : Addr), Same H H' → H p = none → H' p = some (.lst (natV [0, f.code, f.place])) → Q (.ref p) H')
theorem sc_load : FnScope ["desk", "text", "table", "fault"] ["desk", "text"] (defScope (top 98)) := ⟨rfl, rfl, rfl, by decide +kernel, rfl, by decide +kernel, by decide +kernel⟩
theorem ok_load (T : Txt K mg) : Def P w K mg base CX0 9 "load" ["desk", "text"] (sp_load K) := by
  obtain ⟨fd, F⟩ := fd_load T
  refine Def.mk' F sc_load (gl_load T) (fun vs H Q E h => by obtain ⟨_, _, _, _, _, _, rfl, _⟩ := h; rfl) (fun _ _ _ _ _ _ us hl => match us, hl with | [_, _], _ => rfl) fun cdv A outer s H vs Q E hr h => ?_
  refine ⟨_, PSs.nox (pss_cons (ps_try_as (i := 3) rfl rfl sc_load.nd rfl rfl ⟨rfl, by decide, Or.inl (gl_Fault T)⟩ takes0
      (fun W pn xe tk _ => by exact (pss_one (ps_set (i := 2) sc_load.nd rfl (Or.inl rfl) (Def.callX (ok_read_table T) hr (by decide) tk (pa_cons (pv 1) pa_nil)))))
      (fun a oe cls d pn hz hf => by exact (pss_one (ps_ret (pe_lst (pa_cons pe_int (pa_cons (pe_xf (ex_Fault T).xf (na_Fault_code T) hz hf (pv 3)) (pa_cons (pe_xf (ex_Fault T).xf (na_Fault_where T) hz hf (pv 3)) pa_nil))))))))
    (pss_cons (ps_fld (pv 0) (DefC.make (ok_Held_init T) hr (by decide) (pa_cons (pv 2) pa_nil)) rfl)
    (pss_one (ps_ret (pe_lst (pa_cons pe_int (pa_cons (pe_callB call_len_seq (by rfl) (fr_len T) PySem.boot_len (pa_cons (pe_fld (pv 2) rfl) pa_nil)) (pa_cons (pe_callB call_len_seq (by rfl) (fr_len T) PySem.boot_len (pa_cons (pe_fld (pv 2) rfl) pa_nil)) (pa_cons (pe_callB call_len_seq (by rfl) (fr_len T) PySem.boot_len (pa_cons (pe_fld (pv 2) rfl) pa_nil)) pa_nil))))))))), ?_⟩
  obtain ⟨dk, dl, a, B, b, o, rfl, D, ha, hb, hq, he⟩ := h
  refine ⟨_, rfl, a, b, rfl, SqL.of ha, hb, fun t ht H1 ta s1 hta => ?_, fun f hf H1 d b1 hd => ⟨true, (ex_Fault T).me, fun _ x hx => ?_, fun q => Bool.noConfusion q⟩⟩
  · have W := read_wf ht
    have h := hq t ht
    clear hq he
    have D1 := D.up s1
    have hE1 := D1.ext
    obtain ⟨hS, hB, hBD, ⟨dls, hdl⟩, ddx, v, hdk, _⟩ := id D1
    refine ⟨_, rfl, fun x dx nx ndx nex => ?_⟩
    have sx : Same H1 (upd (upd H1 dx (.own x)) x (.ins (He.ga K "Held") dx [])) := fun c o e => by
      rw [upd_ne (ne_of_none e nx), upd_ne (ne_of_none e ndx)]
      exact e
    have hxx : (upd (upd H1 dx (.own x)) x (.ins (He.ga K "Held") dx [])) x = some (.ins (He.ga K "Held") dx []) := upd_same
    have hxdk : x ≠ dk := fun e => by rw [e, hdk] at nx; cases nx
    have hxdl : x ≠ dl := fun e => by rw [e, hdl] at nx; cases nx
    have hdd : dk ≠ dl := fun e => by rw [e, hdl] at hdk; cases hdk
    have hT : TbAt K (cut [x] (newer (xB B dk dl) (upd (upd H1 dx (.own x)) x (.ins (He.ga K "Held") dx [])))) ta t := hta.same fun c o e => by
      obtain ⟨e1, e2⟩ := newer_some e
      have hcx : c ≠ x := fun z => by rw [z, nx] at e2; cases e2
      have hcd : c ≠ dk := fun z => by
        obtain ⟨_, _, _, _, ddx', v', q, _⟩ := D
        rw [z, q] at e1; cases e1
      have hcl : c ≠ dl := fun z => by
        obtain ⟨xs, q⟩ := D.lst
        rw [z, q] at e1; cases e1
      rw [cut_out (by simpa using hcx)]
      exact newer_of (by rw [xB, upd_ne hcl, upd_ne hcd]; exact D.same.free e1) (sx _ _ e2)
    refine ⟨x, ta, dx, xB B dk dl, t, rfl, hxx, by rw [xB, upd_ne hxdl, upd_ne hxdk]; exact hS.free nx, fun c hc => hE1 c (sx.free hc), hT, W, fun H3 b3 Y3 => ⟨rfl, ?_⟩⟩
    have hdk3 := b3 _ _ (sx _ _ hdk) (by simpa using Ne.symm hxdk)
    refine ⟨_, rfl, _, _, _, _, rfl, hdk3, cl_Desk T, na_Desk_held T, (by show 1 < 1000; decide), ?_⟩
    rw [dk_put]
    have Y4 : HdAt K (newer (xB B dk dl) (upd H3 dk (.ins (He.ga K "Desk") ddx (dkF (.ref x))))) x t 1000000 0 false := by
      rw [newer_skip ((upd_ne hdd).trans upd_same)]
      exact Y3
    have f4 : (upd H3 dk (.ins (He.ga K "Desk") ddx (dkF (.ref x)))) dk = some (.ins (He.ga K "Desk") ddx (dkF (.ref x))) := upd_same
    have k4 : ∀ c o, H1 c = some o → c ≠ dk → (upd H3 dk (.ins (He.ga K "Desk") ddx (dkF (.ref x)))) c = some o := fun c o e n => by
      rw [upd_ne n]
      exact b3 _ _ (sx _ _ e) (by simpa using ne_of_none e nx)
    generalize (upd H3 dk (.ins (He.ga K "Desk") ddx (dkF (.ref x)))) = H4 at Y4 f4 k4 ⊢
    obtain ⟨dx', ta', sl, al, ll, cl, X, _⟩ := id Y4
    obtain ⟨clC, rl, ql, ⟨tdx, hta4⟩, ⟨ca, hcl, hca⟩, ⟨ra, hrl, hra⟩, ⟨qa, hql, hqa⟩⟩ := hta
    have up : ∀ {c : Addr} {o : HO}, newer H H1 c = some o → H4 c = some o := fun {c o} e => by
      obtain ⟨e1, e2⟩ := newer_some e
      refine k4 _ _ e2 fun z => ?_
      obtain ⟨_, _, _, _, ddx', v', q, _⟩ := D
      rw [z, q] at e1; cases e1
    refine ⟨_, rfl, _, _, _, _, _, rfl, up hta4, cl_Table T, na_Table_columns T, tb_columns, _, _, rfl, .inl (SqL.of (up hcl)),
      _, rfl, _, _, _, _, _, rfl, up hta4, cl_Table T, na_Table_rows T, tb_rows, _, _, rfl, .inl (SqL.of (up hrl)),
      _, rfl, _, _, _, _, _, rfl, up hta4, cl_Table T, na_Table_questions T, tb_questions, _, _, rfl, .inl (SqL.of (up hql)), by show 4 ≤ sizeLine; decide, fun p hp => ?_⟩
    rw [List.length_map, List.length_map, List.length_map, hca.len, hra.len, hqa.len]
    have s5 : Same H4 (upd H4 p (.lst [V.int 1, V.int (t.cols.length : Nat), V.int (t.rows.length : Nat), V.int (t.asks.length : Nat)])) := same_new hp
    have hfree : H p = none := by
      cases q : H p with
      | none => rfl
      | some o =>
        by_cases e : p = dk
        · rw [e, f4] at hp; cases hp
        · rw [k4 _ _ (s1 _ _ q) e] at hp; cases hp
    refine h _ p ?_ ⟨?_, hB, hBD, ⟨dls, s5 _ _ (k4 _ _ hdl (Ne.symm hdd))⟩, ddx, .ref x, s5 _ _ f4, x, false, rfl, Y4.up s5, by show 0 ≤ 1000; decide⟩ hfree ?_
    · intro c xs e
      exact s5 _ _ (k4 _ _ (s1 _ _ e) (ne_of (s1 _ _ e) hdk (by intro z; cases z)))
    · intro c o e
      exact s5 _ _ (k4 _ _ (hS _ _ e) fun z => by rw [z, hB] at e; cases e)
    · rw [upd_same]
      rfl
  · have s1 := b1.same
    refine ⟨_, rfl, rfl, rfl, _, _, _, rfl, hd, fx_code, _, rfl, rfl, rfl, _, _, _, rfl, hd, fx_where, by show 3 ≤ sizeLine; decide, fun p hp => he f hf _ p (s1.trans (same_new hp)) (s1.free hp) ?_⟩
    rw [upd_same]
    rfl
end
end Bw
set_option Elab.async false
set_option linter.all false
set_option maxRecDepth 100000
set_option maxHeartbeats 4000000
namespace Bw
open VamvsBase (Bytes)
open Vamvsb (Terms Held looked)
open VamvsbNeutral (encode)
open Bk (memb mm sz asked lines cnt)
/-! ### what the Spec answers -/
def nI (l : List Nat) : List Int := l.map fun (n : Nat) => (n : Int)
theorem law_best (t : Vamvsa.Table) (m : Terms) : encode (looked ⟨t, m⟩ .best) = nI (Bk.cost t m.changes (bs t m.room m.changes) :: lines t (bs t m.room m.changes) :: (memb (mm t) (bs t m.room m.changes)).length :: memb (mm t) (bs t m.room m.changes)) := by
  have e : encode (looked ⟨t, m⟩ .best) = ((Vamvsb.bestSet t m).cost : Int) :: ((Vamvsb.bestSet t m).room : Int) :: ((Vamvsb.bestSet t m).kept.length : Int) :: Vamvsb.nats (Vamvsb.bestSet t m).kept := rfl
  rw [e, Bk.bestSet_eq]
  rfl
theorem items_len (t : Vamvsa.Table) : (Vamvsb.items t).length = mm t := by
  rw [Bk.items_eq, List.length_map, List.length_range]
theorem law_steps (t : Vamvsa.Table) (m : Terms) : encode (looked ⟨t, m⟩ .steps) = nI (Bk.cost t m.changes (Bk.setOf (stp t m.room m.changes (mm t))) :: lines t (Bk.setOf (stp t m.room m.changes (mm t))) :: (stp t m.room m.changes (mm t)).length :: stp t m.room m.changes (mm t)) := by
  have e : encode (looked ⟨t, m⟩ .steps) = (Vamvsb.stateCost t m (Vamvsb.stepsBy t m (Vamvsb.items t) (Vamvsb.items t).length (Vamvsb.firstState t)) : Int) :: ((Vamvsb.stepsBy t m (Vamvsb.items t) (Vamvsb.items t).length (Vamvsb.firstState t)).room : Int) ::
    ((Vamvsb.stepsBy t m (Vamvsb.items t) (Vamvsb.items t).length (Vamvsb.firstState t)).kept.length : Int) :: Vamvsb.nats (Vamvsb.stepsBy t m (Vamvsb.items t) (Vamvsb.items t).length (Vamvsb.firstState t)).kept := rfl
  rw [e, items_len]
  obtain ⟨h1, h2⟩ := Bk.stepsBy_eq (t := t) (m := m) (mm t) 0 _ (Bk.StOf.first t)
  rw [h1, h2.cost m, h2.room]
  rfl
theorem lines_free {t : Vamvsa.Table} (W : WF t) (J : Nat) : lines t J ≤ 1000000 ∧ lines t J ≤ allL t := by
  have := Bk.lines_small (mm_le W) W.wr J
  exact ⟨by omega, Bk.lines_le_all t J⟩
theorem law_few {t : Vamvsa.Table} (W : WF t) (m : Terms) {n : Int} (h : 0 ≤ n ∧ n ≤ 4) : encode (looked ⟨t, m⟩ (.few n)) = nI (fewL t n.toNat) := by
  have e : encode (looked ⟨t, m⟩ (.few n)) = encode (if n < 0 ∨ 4 < n then VamvsBase.one (-3) else ⟨((Vamvsb.bestFew t n.toNat).cost : Int), Vamvsb.listRow (Vamvsb.bestFew t n.toNat).kept ++ ((Vamvsb.readCost t (Vamvsb.greedyFew t n.toNat) : Int) :: Vamvsb.listRow (Vamvsb.greedyFew t n.toNat).kept)⟩) := rfl
  rw [e, if_neg (by omega)]
  obtain ⟨h1, h2⟩ := Bk.stepsBy_eq (t := t) (m := Vamvsb.free) n.toNat 0 _ (Bk.StOf.first t)
  have hs : Bk.sbs t 0 1000000 n.toNat 0 = stp t (allL t) 0 n.toNat := Bk.sbs_room (lines_free W) _ _
  have h1 : (Vamvsb.greedyFew t n.toNat).kept = stp t (allL t) 0 n.toNat := by
    rw [← hs]
    exact h1
  have h3 : Vamvsb.readCost t (Vamvsb.greedyFew t n.toNat) = Bk.cost t 0 (Bk.setOf (stp t (allL t) 0 n.toNat)) := by
    have := h2.readCost
    have e2 : Vamvsb.readCost t (Vamvsb.greedyFew t n.toNat) = asked t (Bk.setOf (Bk.sbs t 0 1000000 n.toNat 0)) := this
    rw [e2, hs]
    unfold Bk.cost
    rw [Nat.mul_zero, Nat.zero_mul, Nat.add_zero]
  rw [h1, h3, Bk.bestFew_eq]
  show _ = nI (Bk.cost t 0 (fw t n.toNat) :: (memb (mm t) (fw t n.toNat)).length :: memb (mm t) (fw t n.toNat) ++ Bk.cost t 0 (Bk.setOf (stp t (allL t) 0 n.toNat)) :: (stp t (allL t) 0 n.toNat).length :: stp t (allL t) 0 n.toNat)
  unfold nI
  rw [List.map_append]
  rfl
theorem law_few_no (t : Vamvsa.Table) (m : Terms) {n : Int} (h : ¬ (0 ≤ n ∧ n ≤ 4)) : looked ⟨t, m⟩ (.few n) = VamvsBase.one (-3) := by
  have e : looked ⟨t, m⟩ (.few n) = (if n < 0 ∨ 4 < n then VamvsBase.one (-3) else ⟨((Vamvsb.bestFew t n.toNat).cost : Int), Vamvsb.listRow (Vamvsb.bestFew t n.toNat).kept ++ ((Vamvsb.readCost t (Vamvsb.greedyFew t n.toNat) : Int) :: Vamvsb.listRow (Vamvsb.greedyFew t n.toNat).kept)⟩) := rfl
  rw [e, if_pos (by omega)]
/-! ### told sets -/
theorem index_yes {z : Int} {n : Nat} (h : 0 ≤ z ∧ z < (n : Nat)) : VamvsBase.index z n = some z.toNat := if_pos h
theorem index_no {z : Int} {n : Nat} (h : ¬ (0 ≤ z ∧ z < (n : Nat))) : VamvsBase.index z n = none := if_neg h
theorem keptOf_yes {t : Vamvsa.Table} {l : List Int} (h : ∀ z ∈ l, 0 ≤ z ∧ z < (mm t : Nat)) : Vamvsb.keptOf t l = some (memb (mm t) (Bk.setOf (l.map Int.toNat))) := by
  unfold Vamvsb.keptOf
  rw [if_neg]
  · congr 1
    unfold Vamvsa.groupings memb
    apply List.filter_congr
    intro g hg
    rw [Bk.setOf_bit, Bool.eq_iff_iff, List.contains_iff_mem, List.contains_iff_mem, List.mem_map]
    constructor
    · intro q
      exact ⟨_, q, rfl⟩
    · rintro ⟨z, hz, e⟩
      have := h z hz
      have e : z.toNat = g := e
      rw [show ((g : Nat) : Int) = z by omega]
      exact hz
  · rw [List.any_eq_true]
    rintro ⟨z, hz, e⟩
    rw [show VamvsBase.index z (2 ^ Vamvsa.width t) = some z.toNat from index_yes (h z hz)] at e
    cases e
theorem keptOf_no {t : Vamvsa.Table} {l : List Int} (h : ∃ z ∈ l, ¬ (0 ≤ z ∧ z < (mm t : Nat))) : Vamvsb.keptOf t l = none := by
  unfold Vamvsb.keptOf
  obtain ⟨z, hz, hn⟩ := h
  rw [if_pos]
  rw [List.any_eq_true]
  refine ⟨z, hz, ?_⟩
  rw [show VamvsBase.index z (2 ^ Vamvsa.width t) = none from index_no hn]
  rfl
theorem sorted_memb (t : Vamvsa.Table) (k : Nat) : Vamvsa.sortedKept t (memb (mm t) k) = memb (mm t) k := Bk.sortedKept_of fun g hg => Bk.contains_memb hg
theorem cost_memb (t : Vamvsa.Table) (m : Terms) (k : Nat) : Vamvsb.cost t m (memb (mm t) k) = Bk.cost t m.changes k := by
  unfold Vamvsb.cost Vamvsb.upkeep Bk.cost
  rw [Bk.total_eq (sorted_memb t k)]
  rfl
theorem law_price (t : Vamvsa.Table) (m : Terms) {l : List Int} (h : ∀ z ∈ l, 0 ≤ z ∧ z < (mm t : Nat)) : encode (looked ⟨t, m⟩ (.price l)) = nI (priceL t m.room m.changes (Bk.setOf (l.map Int.toNat))) := by
  have e : looked ⟨t, m⟩ (.price l) = (match Vamvsb.keptOf t l with
    | none => VamvsBase.one (-2)
    | some k => ⟨(Vamvsb.cost t m k : Int), Vamvsb.nats [Vamvsa.room t k, Vamvsa.total t k, Vamvsb.upkeep m k, if Vamvsa.room t k ≤ m.room then 1 else 0]⟩) := rfl
  rw [e, keptOf_yes h]
  show encode ⟨(Vamvsb.cost t m _ : Int), Vamvsb.nats [Vamvsa.room t _, Vamvsa.total t _, Vamvsb.upkeep m _, if Vamvsa.room t _ ≤ m.room then 1 else 0]⟩ = _
  rw [cost_memb, Bk.total_eq (sorted_memb t _), Bk.room_eq (sorted_memb t _)]
  rfl
theorem law_price_no (t : Vamvsa.Table) (m : Terms) {l : List Int} (h : ∃ z ∈ l, ¬ (0 ≤ z ∧ z < (mm t : Nat))) : looked ⟨t, m⟩ (.price l) = VamvsBase.one (-2) := by
  have e : looked ⟨t, m⟩ (.price l) = (match Vamvsb.keptOf t l with
    | none => VamvsBase.one (-2)
    | some k => ⟨(Vamvsb.cost t m k : Int), Vamvsb.nats [Vamvsa.room t k, Vamvsa.total t k, Vamvsb.upkeep m k, if Vamvsa.room t k ≤ m.room then 1 else 0]⟩) := rfl
  rw [e, keptOf_no h]
/-! ### why -/
theorem memb_less {m k g : Nat} (h : k.testBit g = true) : (memb m k).filter (fun v => v != g) = memb m (k - 2 ^ g) := by
  unfold memb
  rw [List.filter_filter]
  apply List.filter_congr
  intro x _
  rw [Bk.testBit_sub h, Bool.and_comm]
  congr 1
  rw [Bool.eq_iff_iff]
  simp
theorem cost_more {t : Vamvsa.Table} (m : Terms) {k g : Nat} (hg : g < mm t) (h : k.testBit g = false) : Vamvsb.cost t m (memb (mm t) k ++ [g]) = Bk.cost t m.changes (k ||| 2 ^ g) := by
  have hs : Vamvsa.sortedKept t (memb (mm t) k ++ [g]) = memb (mm t) (k ||| 2 ^ g) := Bk.sortedKept_of fun x hx => by
    rw [List.contains_iff_mem, List.mem_append, List.mem_singleton, Bk.testBit_or_pow, Bool.or_eq_true, decide_eq_true_eq, Bk.mem_memb]
    constructor
    · rintro (q | q)
      · exact .inl q.2
      · exact .inr q
    · rintro (q | q)
      · exact .inl ⟨hx, q⟩
      · exact .inr q
  unfold Vamvsb.cost Vamvsb.upkeep Bk.cost
  rw [Bk.total_eq hs, List.length_append, Bk.cnt_insert hg h]
  rfl
theorem law_why (t : Vamvsa.Table) (m : Terms) {g : Int} (h : 0 ≤ g ∧ g < (mm t : Nat)) : encode (looked ⟨t, m⟩ (.why g)) = whyI t m.room m.changes g.toNat := by
  have e : looked ⟨t, m⟩ (.why g) = (match VamvsBase.index g (2 ^ Vamvsa.width t) with
    | none => VamvsBase.one (-2)
    | some x => if (Vamvsb.bestSet t m).kept.contains x = true then ⟨1, ((Vamvsb.cost t m ((Vamvsb.bestSet t m).kept.filter fun v => v != x) : Int) - ((Vamvsb.bestSet t m).cost : Int)) :: Vamvsb.listRow (Vamvsb.readersOf t (Vamvsb.bestSet t m).kept x)⟩
      else ⟨0, [(Vamvsb.cost t m ((Vamvsb.bestSet t m).kept ++ [x]) : Int) - ((Vamvsb.bestSet t m).cost : Int), if (Vamvsb.bestSet t m).room + Vamvsa.sizeOf_ t x ≤ m.room then 1 else 0]⟩) := rfl
  rw [e, show VamvsBase.index g (2 ^ Vamvsa.width t) = some g.toNat from index_yes h]
  show encode (if (Vamvsb.bestSet t m).kept.contains g.toNat = true then ⟨1, ((Vamvsb.cost t m ((Vamvsb.bestSet t m).kept.filter fun v => v != g.toNat) : Int) - ((Vamvsb.bestSet t m).cost : Int)) :: Vamvsb.listRow (Vamvsb.readersOf t (Vamvsb.bestSet t m).kept g.toNat)⟩
      else ⟨0, [(Vamvsb.cost t m ((Vamvsb.bestSet t m).kept ++ [g.toNat]) : Int) - ((Vamvsb.bestSet t m).cost : Int), if (Vamvsb.bestSet t m).room + Vamvsa.sizeOf_ t g.toNat ≤ m.room then 1 else 0]⟩) = _
  have hg : g.toNat < mm t := by omega
  generalize g.toNat = x at hg
  rw [Bk.bestSet_eq]
  have hp : Bk.prK t m.changes (Bk.bo t m.changes m.room (mm t) (2 ^ mm t - 1)) = ⟨Bk.cost t m.changes (bs t m.room m.changes), lines t (bs t m.room m.changes), bs t m.room m.changes, memb (mm t) (bs t m.room m.changes)⟩ := rfl
  rw [hp]
  unfold whyI
  generalize bs t m.room m.changes = k
  dsimp only
  by_cases c : k.testBit x = true
  · rw [if_pos (Bk.contains_memb hg |>.mpr c), if_pos c, memb_less c, cost_memb]
    rfl
  · have c' : k.testBit x = false := by simpa using c
    rw [if_neg (fun z => c ((Bk.contains_memb hg).mp z)), if_neg c, cost_more m hg c']
    have hl : lines t k + Vamvsa.sizeOf_ t x = lines t (k ||| 2 ^ x) := (Bk.lines_insert hg c').symm
    rw [hl]
    show [(0 : Int), _, _] = [(0 : Int), _, _]
    congr 2
    congr 1
    split <;> rfl
theorem law_why_no (t : Vamvsa.Table) (m : Terms) {g : Int} (h : ¬ (0 ≤ g ∧ g < (mm t : Nat))) : looked ⟨t, m⟩ (.why g) = VamvsBase.one (-2) := by
  have e : looked ⟨t, m⟩ (.why g) = (match VamvsBase.index g (2 ^ Vamvsa.width t) with
    | none => VamvsBase.one (-2)
    | some x => if (Vamvsb.bestSet t m).kept.contains x = true then ⟨1, ((Vamvsb.cost t m ((Vamvsb.bestSet t m).kept.filter fun v => v != x) : Int) - ((Vamvsb.bestSet t m).cost : Int)) :: Vamvsb.listRow (Vamvsb.readersOf t (Vamvsb.bestSet t m).kept x)⟩
      else ⟨0, [(Vamvsb.cost t m ((Vamvsb.bestSet t m).kept ++ [x]) : Int) - ((Vamvsb.bestSet t m).cost : Int), if (Vamvsb.bestSet t m).room + Vamvsa.sizeOf_ t x ≤ m.room then 1 else 0]⟩) := rfl
  rw [e, show VamvsBase.index g (2 ^ Vamvsa.width t) = none from index_no h]
theorem law_curve (t : Vamvsa.Table) (m : Terms) : encode (looked ⟨t, m⟩ .curve) = nI (curveL t m.changes) := by
  have e : encode (looked ⟨t, m⟩ .curve) = ((Vamvsb.curve t m).length : Int) :: (Vamvsb.curve t m).flatMap fun x => Vamvsb.nats [x.1, x.2] := rfl
  have e2 : Vamvsb.curve t m = Vamvsb.curve t ⟨0, m.changes⟩ := rfl
  rw [e, e2]
  unfold curveL
  generalize Vamvsb.curve t ⟨0, m.changes⟩ = L
  unfold nI
  rw [List.map_cons]
  congr 1
  induction L with
  | nil => rfl
  | cons x r ih => rw [List.flatMap_cons, List.flatMap_cons, List.map_append, ih]; rfl
theorem law_shown (t : Vamvsa.Table) (m : Terms) : encode (looked ⟨t, m⟩ .shown) = ((Vamvsa.shown t).length : Int) :: byV (Vamvsa.shown t) := rfl
end Bw
set_option Elab.async false
set_option linter.all false
set_option maxRecDepth 100000
set_option maxHeartbeats 4000000
namespace Bw
open PySem PySem.Spec PyProof.Rows L2
section
variable {P : Program} {w : World} {K : PySem.W.Frag} {mg : Str → Option Value} {base : Heap}
open VamvsBase (Bytes word joined showNat showInt)
open VamvsbNeutral (encode)
theorem flat_len {α : Type} (f : α → Bytes) (b : Nat) : ∀ l : List α, (∀ x ∈ l, (f x).length ≤ b) → (l.flatMap f).length ≤ l.length * b
  | [], _ => Nat.zero_le _
  | x :: r, h => by
    have h1 := h x (by simp)
    have h2 := flat_len f b r fun y hy => h y (List.mem_cons_of_mem _ hy)
    rw [List.flatMap_cons, List.length_append, List.length_cons, Nat.add_mul, Nat.one_mul]
    omega
theorem shown_len {t : Vamvsa.Table} (W : WF t) : (Vamvsa.shown t).length ≤ 100000 := by
  have e8 : (word "columns ").length = 8 := by decide +kernel
  have e2 : (word " ;").length = 2 := by decide +kernel
  have e4 : (word "row ").length = 4 := by decide +kernel
  have e5 : (word " : ").length = 3 := by decide +kernel
  have hcc := commas_len (bs := t.cols) (fun b hb => by have := W.nm b hb; omega) (by have := W.wc; omega)
  have h1 := flat_len Vamvsa.showRow 900 t.rows fun r hr => by
    obtain ⟨g1, g2, g3⟩ := row_len W hr
    have gc := commas_len g1 g2
    unfold Vamvsa.showRow Vamvsa.line
    simp only [List.length_append, e4, e5, e2, List.length_cons, List.length_nil]
    omega
  have h2 := flat_len (Vamvsa.showAsk t.cols) 900 t.asks fun a ha => showAsk_len W ha
  have hr := W.wr
  have ha := W.wa
  unfold Vamvsa.shown Vamvsa.line
  simp only [List.length_append, e8, e2, List.length_cons, List.length_nil]
  have h3 : t.rows.length * 900 ≤ 16 * 900 := Nat.mul_le_mul_right _ hr
  have h4 : t.asks.length * 900 ≤ 8 * 900 := Nat.mul_le_mul_right _ ha
  omega
/-- the table has changed, perhaps -/
theorem DkAt.ans {B H H' : Hp} {dk dl h ddx : Addr} {t : Vamvsa.Table} {r c r' c' : Nat} {b b' : Bool} (hs : Same B H) (hB : B dk = none) (hBD : B dl = none) (hdl : ∃ xs, H dl = some (.lst xs)) (hdk : H dk = some (.ins (He.ga K "Desk") ddx (dkF (.ref h))))
    (Y : HdAt K (newer (xB B dk dl) H) h t r c b) (bb : But [h] H H') (Y' : HdAt K (newer (xB B dk dl) H') h t r' c' b') (hc : c' ≤ 1000) : KeepL H H' ∧ DkAt K B H' dk dl (some ⟨t, ⟨r', c'⟩⟩) := by
  obtain ⟨dx, ta, sl, al, ll, cl, X, _⟩ := Y
  obtain ⟨e1, e2⟩ := newer_some X.ins
  obtain ⟨xs, hdl⟩ := hdl
  have hnl : h ≠ dl := fun e => by rw [e, xB, upd_same] at e1; cases e1
  rw [xB, upd_ne hnl] at e1
  have hne : h ≠ dk := fun e => by rw [e, upd_same] at e1; cases e1
  rw [upd_ne hne] at e1
  refine ⟨fun a xs e => bb _ _ e (by simpa using ne_of e e2 (by intro z; cases z)), fun a o e => bb _ _ (hs _ _ e) ?_, hB, hBD, ⟨xs, bb _ _ hdl (by simpa using Ne.symm hnl)⟩, ddx, .ref h, bb _ _ hdk (by simpa using Ne.symm hne), h, b', rfl, Y', hc⟩
  rw [List.mem_singleton]
  intro z
  rw [z, e1] at e
  cases e
theorem lst_nat (l : List Nat) : some (HO.lst (natV l)) = some (HO.lst ((nI l).map V.int)) := congrArg (fun z => some (HO.lst z)) (natV_ints l)
/-- which call -/
def CallIs : Vamvsb.Call → Int → List Int → List Int → Prop
  | .load b, p, _, zs => p = 0 ∧ zs = byV b ∧ b.length ≤ 10000
  | .shown, p, _, _ => p = 1
  | .terms r c, p, ns, _ => p = 2 ∧ ns = [r, c]
  | .best, p, _, _ => p = 3
  | .steps, p, _, _ => p = 4
  | .few n, p, ns, _ => p = 5 ∧ ns = [n]
  | .price l, p, _, zs => p = 6 ∧ zs = l
  | .why g, p, ns, _ => p = 7 ∧ ns = [g]
  | .curve, p, _, _ => p = 8
theorem CallIs.load {k : Vamvsb.Call} {p : Int} {ns zs : List Int} (h : CallIs k p ns zs) (h0 : p = 0) : ∃ b, k = .load b ∧ zs = byV b ∧ b.length ≤ 10000 := by
  subst h0
  cases k with
  | load b => exact ⟨b, rfl, h.2.1, h.2.2⟩
  | shown => exact absurd (show (0 : Int) = 1 from h) (by decide)
  | terms r c => exact absurd h.1 (by decide)
  | best => exact absurd (show (0 : Int) = 3 from h) (by decide)
  | steps => exact absurd (show (0 : Int) = 4 from h) (by decide)
  | few n => exact absurd h.1 (by decide)
  | price l => exact absurd h.1 (by decide)
  | why g => exact absurd h.1 (by decide)
  | curve => exact absurd (show (0 : Int) = 8 from h) (by decide)
theorem step_none {k : Vamvsb.Call} {p : Int} {ns zs : List Int} (h : CallIs k p ns zs) (h0 : ¬ p = 0) : Vamvsb.step none k = (none, VamvsBase.one (-1)) := by
  cases k with
  | load b => exact absurd h.1 h0
  | _ => rfl
def sp_call_on (K : PySem.W.Frag) : Sp := fun vs H Q E => ∃ (dk dl an sa : Addr) (B : Hp) (o : Vamvsb.Obj) (k : Vamvsb.Call) (p : Int) (ns zs : List Int), vs = [.ref dk, .int p, .ref an, .ref sa] ∧ DkAt K B H dk dl o ∧
  H an = some (.lst (ns.map V.int)) ∧ H sa = some (.lst (zs.map V.int)) ∧ CallIs k p ns zs ∧
  (∀ (H' : Hp) (q : Addr) (L : List Int), KeepL H H' → DkAt K B H' dk dl (Vamvsb.step o k).1 → H q = none → H' q = some (.lst (L.map V.int)) → encode (Vamvsb.step o k).2 = L → Q (.ref q) H') ∧
  (∀ n : Int, Vamvsb.step o k = (o, VamvsBase.one n) → Rfs K H E n)
theorem eq_int_no {p i : Int} (h : ¬ p = i) : decide (V.int p = V.int i) = false := decide_eq_false fun z => h (V.int.inj z)
theorem sc_call_on : FnScope ["desk", "call", "n", "some", "held"] ["desk", "call", "n", "some"] (defScope (top 108)) := ⟨rfl, rfl, rfl, by decide +kernel, rfl, by decide +kernel, by decide +kernel⟩
theorem ok_call_on (T : Txt K mg) : Def P w K mg base (L2.CX P w) 10 "call_on" ["desk", "call", "n", "some"] (sp_call_on K) := by
  obtain ⟨fd, F⟩ := fd_call_on T
  refine Def.mk' F sc_call_on (gl_call_on T) (fun vs H Q E h => by obtain ⟨_, _, _, _, _, _, _, _, _, _, rfl, _⟩ := h; rfl) (fun _ _ _ _ _ _ us hl => match us, hl with | [_, _, _, _], _ => rfl) fun cdv A outer s H vs Q E hr h => ?_
  refine ⟨_, pss_cons (ps_if (pt_cmpR op_eq (pv 1) pe_int (nomark _))
      (pss_one (ps_ret (Def.call (ok_load T) hr (by decide) (pa_cons (pv 0) (pa_cons (pv 3) pa_nil)))))
      (pss_nil))
    (pss_cons (ps_set (i := 4) sc_call_on.nd rfl (Or.inl rfl) (pe_fld (pv 0) rfl))
    (pss_cons (ps_expr (Def.callX (ok_refuse_if T) hr (by decide) (takes_of rfl rfl rfl rfl) (pa_cons (pe_cmpR op_isN (pv 4) pe_non (nomark _)) (pa_cons (pe_gi (in_NO_TABLE T)) pa_nil))))
    (pss_cons (ps_if (pt_cmpR op_eq (pv 1) pe_int (nomark _))
      (pss_one (ps_ret (Def.call (ok_listed T) hr (by decide) (pa_cons (Def.call (ok_shown_table T) hr (by decide) (pa_cons (pe_fld (pv 4) rfl) pa_nil)) pa_nil))))
      (pss_nil))
    (pss_cons (ps_if (pt_cmpR op_eq (pv 1) pe_int (nomark _))
      (pss_one (ps_ret (Def.callX (ok_terms T) hr (by decide) (takes_of rfl rfl rfl rfl) (pa_cons (pv 4) (pa_cons (pe_ix ix_list (pv 2) pe_int (fun _ _ => rfl)) (pa_cons (pe_ix ix_list (pv 2) pe_int (fun _ _ => rfl)) pa_nil))))))
      (pss_nil))
    (pss_cons (ps_if (pt_cmpR op_eq (pv 1) pe_int (nomark _))
      (pss_one (ps_ret (Def.call (ok_best T) hr (by decide) (pa_cons (pv 4) pa_nil))))
      (pss_nil))
    (pss_cons (ps_if (pt_cmpR op_eq (pv 1) pe_int (nomark _))
      (pss_one (ps_ret (Def.call (ok_steps T) hr (by decide) (pa_cons (pv 4) pa_nil))))
      (pss_nil))
    (pss_cons (ps_if (pt_cmpR op_eq (pv 1) pe_int (nomark _))
      (pss_one (ps_ret (Def.callX (ok_few T) hr (by decide) (takes_of rfl rfl rfl rfl) (pa_cons (pv 4) (pa_cons (pe_ix ix_list (pv 2) pe_int (fun _ _ => rfl)) pa_nil)))))
      (pss_nil))
    (pss_cons (ps_if (pt_cmpR op_eq (pv 1) pe_int (nomark _))
      (pss_one (ps_ret (Def.callX (ok_price T) hr (by decide) (takes_of rfl rfl rfl rfl) (pa_cons (pv 4) (pa_cons (pv 3) pa_nil)))))
      (pss_nil))
    (pss_cons (ps_if (pt_cmpR op_eq (pv 1) pe_int (nomark _))
      (pss_one (ps_ret (Def.callX (ok_why T) hr (by decide) (takes_of rfl rfl rfl rfl) (pa_cons (pv 4) (pa_cons (pe_ix ix_list (pv 2) pe_int (fun _ _ => rfl)) pa_nil)))))
      (pss_nil))
    (pss_one (ps_ret (Def.call (ok_curve T) hr (by decide) (pa_cons (pv 4) pa_nil))))))))))))), ?_⟩
  obtain ⟨dk, dl, an, sa, B, o, k, p, ns, zs, rfl, D, hn, hs, hk, hq, hr⟩ := h
  by_cases c0 : p = 0
  · obtain ⟨b, rfl, rfl, hb⟩ := hk.load c0
    subst c0
    refine ⟨_, rfl, rfl, _, rfl, ifT rfl ⟨_, rfl, _, rfl, dk, dl, sa, B, b, o, rfl, D, hs, hb, fun t ht H' q kl D' nq hL => ?_, fun f hf H' q s1 nq hL => ?_⟩⟩
    · have e : Vamvsb.step o (.load b) = (some ⟨t, Vamvsb.free⟩, ⟨1, Vamvsb.nats [Vamvsa.width t, t.rows.length, t.asks.length]⟩) := by
        show (match Vamvsa.read b with | .ok t => _ | .error f => _) = _
        rw [ht]
      rw [e] at hq
      exact hq H' q _ kl D' nq (hL.trans (lst_nat _)) rfl
    · have e : Vamvsb.step o (.load b) = (o, VamvsBase.faulty f) := by
        show (match Vamvsa.read b with | .ok t => _ | .error f => _) = _
        rw [hf]
      rw [e] at hq
      exact hq H' q _ (.of_same s1) (D.up s1) nq (hL.trans (lst_nat _)) rfl
  · refine ⟨_, rfl, rfl, _, rfl, ifF (eq_int_no c0) ?_⟩
    obtain ⟨hS, hB, hBD, hdl, ddx, v, hdk, hv⟩ := id D
    refine ⟨_, rfl, _, _, _, _, _, rfl, hdk, cl_Desk T, na_Desk_held T, dk_held, ?_⟩
    refine ⟨_, rfl, rfl, _, _, rfl, fun hb => ?_, fun hb => ?_⟩
    · cases o with
      | none =>
        have hv : v = .non := hv
        rw [hv] at hb
        cases hb
      | some z =>
        obtain ⟨h, b, rfl, Y, hc⟩ := hv
        obtain ⟨t, m⟩ := z
        dsimp only at Y hc
        have hE := D.ext
        have fin : ∀ (H' : Hp) (q : Addr) (L : List Int) (r' c' : Nat) (b' : Bool), But [h] H H' → HdAt K (newer (xB B dk dl) H') h t r' c' b' → c' ≤ 1000 → H q = none → H' q = some (.lst (L.map V.int)) →
            (Vamvsb.step (some ⟨t, m⟩) k).1 = some ⟨t, ⟨r', c'⟩⟩ → encode (Vamvsb.step (some ⟨t, m⟩) k).2 = L → Q (.ref q) H' := fun H' q L r' c' b' bb Y' hc' nq hL e1 e2 => by
          obtain ⟨k1, k2⟩ := DkAt.ans hS hB hBD hdl hdk Y bb Y' hc'
          exact hq H' q L k1 (by rw [e1]; exact k2) nq hL e2
        clear hq
        cases k with
        | load b => exact absurd hk.1 c0
        | shown =>
          obtain rfl : p = 1 := hk
          obtain ⟨dx, ta, sl, al, ll, cl, X, _⟩ := id Y.now
          have hsl := shown_len X.wf
          refine ⟨_, rfl, rfl, _, rfl, ifT rfl ⟨_, rfl, _, _, _, _, _, rfl, X.ins, cl_Held T, na_Held_table T, hd_table, ta, t, rfl, X.tbl, X.wf, fun H1 p1 s1 hp1 f1 => ⟨p1, _, rfl, f1, ?_, fun H2 p2 s2 hp2 f2 => ?_⟩⟩⟩
          · rw [List.length_map, byV_len]
            omega
          · refine fin H2 p2 _ m.room m.changes b (.of_same (s1.trans s2)) (Y.up (s1.trans s2)) hc (s1.free hp2) ?_ rfl (law_shown t m)
            rw [f2, List.length_map, byV_len]
            rfl
        | terms r c =>
          obtain ⟨rfl, rfl⟩ := hk
          have es : Vamvsb.step (some ⟨t, m⟩) (.terms r c) = if r < 0 ∨ (1000000 : Int) < r then (some ⟨t, m⟩, VamvsBase.one (-3)) else if c < 0 ∨ (1000 : Int) < c then (some ⟨t, m⟩, VamvsBase.one (-4)) else (some ⟨t, ⟨r.toNat, c.toNat⟩⟩, VamvsBase.one 1) := rfl
          refine ⟨_, rfl, rfl, _, rfl, ifF rfl ⟨_, rfl, rfl, _, rfl, ifT rfl ⟨_, rfl, _, rfl, _, _, _, _, rfl, rfl, SqL.of hn, rfl, _, rfl, _, _, _, _, rfl, rfl, SqL.of hn, rfl, h, xB B dk dl, t, m.room, m.changes, b, r, c, rfl, Y, fun hno => ?_, fun hyes hno => ?_, fun h1 h2 H' q bb Y' nq hL => ?_⟩⟩⟩
          · exact hr (-3) (by rw [es, if_pos (by omega)])
          · exact hr (-4) (by rw [es, if_neg (by omega), if_pos (by omega)])
          · have es2 : Vamvsb.step (some ⟨t, m⟩) (.terms r c) = (some ⟨t, ⟨r.toNat, c.toNat⟩⟩, VamvsBase.one 1) := by rw [es, if_neg (by omega), if_neg (by omega)]
            exact fin H' q [1] r.toNat c.toNat b bb Y' (by omega) nq hL (by rw [es2]) (by rw [es2]; rfl)
        | best =>
          obtain rfl : p = 3 := hk
          exact ⟨_, rfl, rfl, _, rfl, ifF rfl ⟨_, rfl, rfl, _, rfl, ifF rfl ⟨_, rfl, rfl, _, rfl, ifT rfl ⟨_, rfl, h, xB B dk dl, t, m.room, m.changes, b, rfl, hE, Y, hc, fun H' q bb Y' nq hL =>
            fin H' q _ m.room m.changes true bb Y' hc nq (hL.trans (lst_nat _)) rfl (law_best t m)⟩⟩⟩⟩
        | steps =>
          obtain rfl : p = 4 := hk
          exact ⟨_, rfl, rfl, _, rfl, ifF rfl ⟨_, rfl, rfl, _, rfl, ifF rfl ⟨_, rfl, rfl, _, rfl, ifF rfl ⟨_, rfl, rfl, _, rfl, ifT rfl ⟨_, rfl, h, xB B dk dl, t, m.room, m.changes, b, rfl, hE, Y, hc, fun H' q bb Y' nq hL =>
            fin H' q _ m.room m.changes true bb Y' hc nq (hL.trans (lst_nat _)) rfl (law_steps t m)⟩⟩⟩⟩⟩
        | few n =>
          obtain ⟨rfl, rfl⟩ := hk
          have W : WF t := by obtain ⟨_, _, _, _, _, _, X, _⟩ := Y; exact X.wf
          exact ⟨_, rfl, rfl, _, rfl, ifF rfl ⟨_, rfl, rfl, _, rfl, ifF rfl ⟨_, rfl, rfl, _, rfl, ifF rfl ⟨_, rfl, rfl, _, rfl, ifF rfl ⟨_, rfl, rfl, _, rfl, ifT rfl ⟨_, rfl, _, rfl, _, _, _, _, rfl, rfl, SqL.of hn, rfl, h, xB B dk dl, t, m.room, m.changes, b, n, rfl, hE, Y,
            fun hno => hr (-3) (congrArg (Prod.mk _) (law_few_no t m hno)), fun hy H' q bb Y' nq hL => fin H' q _ m.room m.changes true bb Y' hc nq (hL.trans (lst_nat _)) rfl (law_few W m hy)⟩⟩⟩⟩⟩⟩
        | price l =>
          obtain ⟨rfl, rfl⟩ := hk
          exact ⟨_, rfl, rfl, _, rfl, ifF rfl ⟨_, rfl, rfl, _, rfl, ifF rfl ⟨_, rfl, rfl, _, rfl, ifF rfl ⟨_, rfl, rfl, _, rfl, ifF rfl ⟨_, rfl, rfl, _, rfl, ifF rfl ⟨_, rfl, rfl, _, rfl, ifT rfl ⟨_, rfl, _, rfl, h, sa, xB B dk dl, t, m.room, m.changes, b, _, rfl, hE, Y, hc, hs,
            fun hno => hr (-2) (congrArg (Prod.mk _) (law_price_no t m hno)), fun hy H' q bb Y' nq hL => fin H' q _ m.room m.changes true bb Y' hc nq (hL.trans (lst_nat _)) rfl (law_price t m hy)⟩⟩⟩⟩⟩⟩⟩
        | why g =>
          obtain ⟨rfl, rfl⟩ := hk
          exact ⟨_, rfl, rfl, _, rfl, ifF rfl ⟨_, rfl, rfl, _, rfl, ifF rfl ⟨_, rfl, rfl, _, rfl, ifF rfl ⟨_, rfl, rfl, _, rfl, ifF rfl ⟨_, rfl, rfl, _, rfl, ifF rfl ⟨_, rfl, rfl, _, rfl, ifF rfl ⟨_, rfl, rfl, _, rfl, ifT rfl ⟨_, rfl, _, rfl, _, _, _, _, rfl, rfl, SqL.of hn, rfl, h, xB B dk dl, t, m.room, m.changes, b, g, rfl, hE, Y, hc,
            fun hno => hr (-2) (congrArg (Prod.mk _) (law_why_no t m hno)), fun hy H' q bb Y' nq hL => fin H' q _ m.room m.changes true bb Y' hc nq hL rfl (law_why t m hy)⟩⟩⟩⟩⟩⟩⟩⟩
        | curve =>
          obtain rfl : p = 8 := hk
          exact ⟨_, rfl, rfl, _, rfl, ifF rfl ⟨_, rfl, rfl, _, rfl, ifF rfl ⟨_, rfl, rfl, _, rfl, ifF rfl ⟨_, rfl, rfl, _, rfl, ifF rfl ⟨_, rfl, rfl, _, rfl, ifF rfl ⟨_, rfl, rfl, _, rfl, ifF rfl ⟨_, rfl, rfl, _, rfl, ifF rfl ⟨_, rfl, h, xB B dk dl, t, m.room, m.changes, b, rfl, hE, Y, hc, fun H' q bb Y' nq hL =>
            fin H' q _ m.room m.changes true bb Y' hc nq (hL.trans (lst_nat _)) rfl (law_curve t m)⟩⟩⟩⟩⟩⟩⟩⟩
    · have hv2 : v = .non := of_decide_eq_true hb
      cases o with
      | none => exact hr (-1) (step_none hk c0)
      | some z =>
        obtain ⟨h, b, e, _⟩ := hv
        rw [hv2] at e
        cases e
theorem rf_number {n : V} : ([("number", n)] : List (Str × V)).lookup (Str.ofString "number") = some n := by kernel_rfl
def sp_answer_to (K : PySem.W.Frag) : Sp := fun vs H Q _ => ∃ (dk dl an sa : Addr) (B : Hp) (o : Vamvsb.Obj) (k : Vamvsb.Call) (p : Int) (ns zs : List Int), vs = [.ref dk, .int p, .ref an, .ref sa] ∧ DkAt K B H dk dl o ∧
  H an = some (.lst (ns.map V.int)) ∧ H sa = some (.lst (zs.map V.int)) ∧ CallIs k p ns zs ∧
  (∀ (H' : Hp) (q : Addr), KeepL H H' → DkAt K B H' dk dl (Vamvsb.step o k).1 → H q = none → H' q = some (.lst ((encode (Vamvsb.step o k).2).map V.int)) → Q (.ref q) H')
theorem sc_answer_to : FnScope ["desk", "call", "n", "some", "refusal"] ["desk", "call", "n", "some"] (defScope (top 109)) := ⟨rfl, rfl, rfl, by decide +kernel, rfl, by decide +kernel, by decide +kernel⟩
theorem ok_answer_to (T : Txt K mg) : Def P w K mg base CX0 11 "answer_to" ["desk", "call", "n", "some"] (sp_answer_to K) := by
  obtain ⟨fd, F⟩ := fd_answer_to T
  refine Def.mk' F sc_answer_to (gl_answer_to T) (fun vs H Q E h => by obtain ⟨_, _, _, _, _, _, _, _, _, _, rfl, _⟩ := h; rfl) (fun _ _ _ _ _ _ us hl => match us, hl with | [_, _, _, _], _ => rfl) fun cdv A outer s H vs Q E hr h => ?_
  refine ⟨_, PSs.nox (pss_one (ps_try_as (i := 4) rfl rfl sc_answer_to.nd rfl rfl ⟨rfl, by decide, Or.inl (gl_Refusal T)⟩ takes0
      (fun W pn xe tk _ => by exact (pss_one (ps_ret (Def.callX (ok_call_on T) hr (by decide) tk (pa_cons (pv 0) (pa_cons (pv 1) (pa_cons (pv 2) (pa_cons (pv 3) pa_nil))))))))
      (fun a oe cls d pn hz hf => by exact (pss_one (ps_ret (pe_lst (pa_cons (pe_xf (ex_Refusal T).xf (na_Refusal_number T) hz hf (pv 4)) pa_nil))))))), ?_⟩
  obtain ⟨dk, dl, an, sa, B, o, k, p, ns, zs, rfl, D, hn, hs, hk, hq⟩ := h
  refine ⟨_, rfl, _, rfl, _, rfl, _, rfl, dk, dl, an, sa, B, o, k, p, ns, zs, rfl, D, hn, hs, hk, fun H' q L k1 D' nq hL e => ?_, fun n hn' H1 d s1 hd => ⟨true, (ex_Refusal T).me, fun _ x hx => ?_, fun q => Bool.noConfusion q⟩⟩
  · subst e
    exact hq H' q k1 D' nq hL
  · rw [hn'] at hq
    refine ⟨_, rfl, rfl, rfl, _, _, _, rfl, hd, rf_number, by show 1 ≤ sizeLine; decide, fun q nq => hq _ q (.of_same (s1.trans (same_new nq))) (D.up (s1.trans (same_new nq))) (s1.free nq) ?_⟩
    rw [upd_same]
    rfl
end
end Bw
set_option Elab.async false
set_option linter.all false
set_option maxRecDepth 100000
set_option maxHeartbeats 4000000
namespace Bw
open L2
open VamvsbNeutral (callOf encode asked1 bytesOf)
/-! ### a call read off the list -/
def numV : List V := [V.int 0, V.int 0, V.int 2, V.int 0, V.int 0, V.int 1, V.int 0, V.int 1, V.int 0]
/-- the call at i: nn numbers, a list perhaps (wl), to e -/
structure Prs (l : List Int) (i : Nat) (p : Int) (c : List (List Int)) (t : List Int) (k : Vamvsb.Call) (nn e : Nat) (wl : Bool) : Prop where
  num : atI numV p = some (V.int (nn : Nat))
  inw : inV (.int p) [V.int 0, V.int 6] = wl
  le1 : i + 1 + nn ≤ l.length
  le2 : e ≤ l.length
  lt : i < e
  cnt : wl = true → ∃ m : Nat, l[i + 1 + nn]? = some (m : Int) ∧ e = i + 1 + nn + 1 + m
  no : wl = false → e = i + 1 + nn
  call : CallIs k p ((l.drop (i + 1)).take nn) ((l.drop (i + 1 + nn + 1)).take (e - (i + 1 + nn + 1)))
  of : callOf (PyVamvsb.whole c) = some k
  rest : t = l.drop e
theorem call_inv {p : Int} {r t : List Int} {c : List (List Int)} {n k : Nat} (hs : PyVamvsb.shape p = some (n, k)) (h : PyFlat.call PyVamvsb.shape (p :: r) = some (c, t)) :
    n ≤ r.length ∧ ∃ xs, PyFlat.rows k (r.drop n) = some (xs, t) ∧ c = (p :: r.take n) :: xs := by
  have h : (match PyVamvsb.shape p with
    | none => none
    | some (n, k) => if r.length < n then none else match PyFlat.rows k (r.drop n) with
      | none => none
      | some (xs, t) => some ((p :: r.take n) :: xs, t)) = some (c, t) := h
  rw [hs] at h
  have h : (if r.length < n then none else match PyFlat.rows k (r.drop n) with
      | none => none
      | some (xs, t) => some ((p :: r.take n) :: xs, t)) = some (c, t) := h
  by_cases q : r.length < n
  · rw [if_pos q] at h; cases h
  · rw [if_neg q] at h
    cases e : PyFlat.rows k (r.drop n) with
    | none => rw [e] at h; cases h
    | some x =>
      obtain ⟨xs, t'⟩ := x
      rw [e] at h
      injection h with h
      injection h with h1 h2
      subst h1 h2
      exact ⟨by omega, xs, rfl, rfl⟩
theorem rows1 {s t : List Int} {xs : List (List Int)} (h : PyFlat.rows 1 s = some (xs, t)) : ∃ (m : Nat) (r : List Int), s = (m : Int) :: r ∧ m ≤ r.length ∧ xs = [r.take m] ∧ t = r.drop m := by
  have h : (match PyFlat.row s with
    | none => none
    | some (x, s) => match PyFlat.rows 0 s with
      | none => none
      | some (xs, t) => some (x :: xs, t)) = some (xs, t) := h
  cases s with
  | nil => cases h
  | cons n r =>
    have hr : PyFlat.row (n :: r) = if 0 ≤ n ∧ n.toNat ≤ r.length then some (r.take n.toNat, r.drop n.toNat) else none := rfl
    rw [hr] at h
    by_cases q : 0 ≤ n ∧ n.toNat ≤ r.length
    · rw [if_pos q] at h
      have h : some ([r.take n.toNat], r.drop n.toNat) = some (xs, t) := h
      injection h with h
      injection h with h1 h2
      exact ⟨n.toNat, r, by rw [Int.toNat_of_nonneg q.1], q.2, h1.symm, h2.symm⟩
    · rw [if_neg q] at h; cases h
theorem byV_bytesOf {z : List Int} (h : NeutralIO.bytes z = true) : byV (bytesOf z) = z := by
  unfold NeutralIO.bytes at h
  rw [List.all_eq_true] at h
  unfold byV bytesOf
  rw [List.map_map]
  refine (List.map_congr_left fun x hx => ?_).trans (List.map_id _)
  have := h x hx
  rw [Bool.and_eq_true, decide_eq_true_eq, decide_eq_true_eq] at this
  show (((UInt8.ofNat x.toNat).toNat : Nat) : Int) = x
  rw [UInt8.toNat_ofNat']
  omega
theorem shape_cases {p : Int} {x : Nat × Nat} (h : PyVamvsb.shape p = some x) : p = 0 ∨ p = 1 ∨ p = 2 ∨ p = 3 ∨ p = 4 ∨ p = 5 ∨ p = 6 ∨ p = 7 ∨ p = 8 := by
  unfold PyVamvsb.shape at h
  by_cases h0 : p = 0; · omega
  by_cases h1 : p = 1; · omega
  by_cases h2 : p = 2; · omega
  by_cases h3 : p = 3; · omega
  by_cases h4 : p = 4; · omega
  by_cases h5 : p = 5; · omega
  by_cases h6 : p = 6; · omega
  by_cases h7 : p = 7; · omega
  by_cases h8 : p = 8; · omega
  rw [if_neg h0, if_neg h1, if_neg h2, if_neg h3, if_neg h4, if_neg h5, if_neg h6, if_neg h7, if_neg h8] at h
  cases h
theorem parse1 {l : List Int} {i : Nat} {p : Int} {r t : List Int} {c : List (List Int)} (hl : l.drop i = p :: r) (h : PyFlat.call PyVamvsb.shape (p :: r) = some (c, t)) (ha : asked1 (PyVamvsb.whole c) = true) :
    ∃ k nn e wl, Prs l i p c t k nn e wl := by
  have hr : r = l.drop (i + 1) := by
    have := congrArg (List.drop 1) hl
    rw [List.drop_drop] at this
    rw [show i + 1 = i + 1 from rfl] at this
    exact this.symm
  have hlen : r.length = l.length - (i + 1) := by rw [hr, List.length_drop]
  have hi : i < l.length := by
    have := congrArg List.length hl
    rw [List.length_drop, List.length_cons] at this
    omega
  obtain ⟨x, hs⟩ : ∃ x, PyVamvsb.shape p = some x := by
    cases e : PyVamvsb.shape p with
    | none =>
      have h : (match PyVamvsb.shape p with
        | none => none
        | some (n, k) => if r.length < n then none else match PyFlat.rows k (r.drop n) with
          | none => none
          | some (xs, t) => some ((p :: r.take n) :: xs, t)) = some (c, t) := h
      rw [e] at h
      cases h
    | some x => exact ⟨x, rfl⟩
  have drop2 : ∀ n, r.drop n = l.drop (i + 1 + n) := fun n => by rw [hr, List.drop_drop]
  -- no list
  have plain : ∀ (n : Nat) (k : Vamvsb.Call), PyVamvsb.shape p = some (n, 0) → atI numV p = some (V.int (n : Nat)) → inV (.int p) [V.int 0, V.int 6] = false → (n ≤ r.length → CallIs k p (r.take n) []) → (n ≤ r.length → callOf (PyVamvsb.whole [p :: r.take n]) = some k) → ∃ k nn e wl, Prs l i p c t k nn e wl := by
    intro n k h0 h1 h2 h3 h4
    obtain ⟨q1, xs, q2, rfl⟩ := call_inv h0 h
    have q2 : some ([], r.drop n) = some (xs, t) := q2
    injection q2 with q2
    injection q2 with q2 q3
    subst q2
    refine ⟨k, n, i + 1 + n, false, h1, h2, by omega, by omega, by omega, (fun z => by cases z), fun _ => rfl, ?_, h4 q1, ?_⟩
    · rw [show i + 1 + n - (i + 1 + n + 1) = 0 by omega, List.take_zero, ← hr]
      exact h3 q1
    · rw [← q3, drop2]
  -- a list
  have listed : ∀ (k : List Int → Vamvsb.Call), PyVamvsb.shape p = some (0, 1) → atI numV p = some (V.int ((0 : Nat) : Int)) → inV (.int p) [V.int 0, V.int 6] = true → (∀ z, asked1 (PyVamvsb.whole [[p], z]) = true → CallIs (k z) p [] z ∧ callOf (PyVamvsb.whole [[p], z]) = some (k z)) → ∃ k nn e wl, Prs l i p c t k nn e wl := by
    intro k h0 h1 h2 h3
    obtain ⟨q1, xs, q2, rfl⟩ := call_inv h0 h
    obtain ⟨m, r', q3, q4, rfl, q5⟩ := rows1 q2
    rw [List.drop_zero] at q3
    have hr2 : r' = l.drop (i + 1 + 1) := by
      have := drop2 1
      rw [q3] at this
      exact this
    have hm : l[i + 1]? = some (m : Int) := by
      have e : (l.drop (i + 1))[0]? = some (m : Int) := by rw [← hr, q3]; rfl
      rw [List.getElem?_drop] at e
      exact e
    have hl2 : r'.length = l.length - (i + 1 + 1) := by rw [hr2, List.length_drop]
    have hi2 : i + 1 < l.length := (List.getElem?_eq_some_iff.mp hm).1
    obtain ⟨z1, z2⟩ := h3 (r'.take m) ha
    refine ⟨k (r'.take m), 0, i + 1 + 0 + 1 + m, true, h1, h2, by omega, by omega, by omega, fun _ => ⟨m, hm, rfl⟩, (fun z => by cases z), ?_, z2, ?_⟩
    · rw [List.take_zero, show i + 1 + 0 + 1 + m - (i + 1 + 0 + 1) = m by omega, show i + 1 + 0 + 1 = i + 1 + 1 from rfl, ← hr2]
      exact z1
    · rw [q5, hr2, List.drop_drop]
  rcases shape_cases hs with rfl | rfl | rfl | rfl | rfl | rfl | rfl | rfl | rfl
  · refine listed (fun z => .load (bytesOf z)) rfl rfl rfl fun z hz => ?_
    have hz : ((z.all (fun (z : Int) => VamvsbNeutral.natural z 8)) && decide (z.length ≤ 8192)) = true := hz
    rw [Bool.and_eq_true, decide_eq_true_eq, List.all_eq_true] at hz
    have hb : NeutralIO.bytes z = true := by
      unfold NeutralIO.bytes
      rw [List.all_eq_true]
      intro x hx
      have := hz.1 x hx
      unfold VamvsbNeutral.natural at this
      rw [Bool.and_eq_true, decide_eq_true_eq, decide_eq_true_eq] at this
      rw [Bool.and_eq_true, decide_eq_true_eq, decide_eq_true_eq]
      omega
    refine ⟨⟨rfl, (byV_bytesOf hb).symm, ?_⟩, ?_⟩
    · unfold bytesOf
      rw [List.length_map]
      omega
    · show (if NeutralIO.bytes z = true then some (Vamvsb.Call.load (bytesOf z)) else none) = _
      rw [if_pos hb]
  · exact plain 0 .shown rfl rfl rfl (fun _ => rfl) fun _ => rfl
  · match r, hlen with
    | [], _ => obtain ⟨q, _⟩ := call_inv (show PyVamvsb.shape 2 = some (2, 0) from rfl) h; exact absurd q (by simp)
    | [a], _ => obtain ⟨q, _⟩ := call_inv (show PyVamvsb.shape 2 = some (2, 0) from rfl) h; exact absurd q (by simp)
    | a :: b :: r, _ => exact plain 2 (.terms a b) rfl rfl rfl (fun _ => ⟨rfl, rfl⟩) fun _ => rfl
  · exact plain 0 .best rfl rfl rfl (fun _ => rfl) fun _ => rfl
  · exact plain 0 .steps rfl rfl rfl (fun _ => rfl) fun _ => rfl
  · match r, hlen with
    | [], _ => obtain ⟨q, _⟩ := call_inv (show PyVamvsb.shape 5 = some (1, 0) from rfl) h; exact absurd q (by simp)
    | a :: r, _ => exact plain 1 (.few a) rfl rfl rfl (fun _ => ⟨rfl, rfl⟩) fun _ => rfl
  · exact listed (fun z => .price z) rfl rfl rfl fun z _ => ⟨⟨rfl, rfl⟩, rfl⟩
  · match r, hlen with
    | [], _ => obtain ⟨q, _⟩ := call_inv (show PyVamvsb.shape 7 = some (1, 0) from rfl) h; exact absurd q (by simp)
    | a :: r, _ => exact plain 1 (.why a) rfl rfl rfl (fun _ => ⟨rfl, rfl⟩) fun _ => rfl
  · exact plain 0 .curve rfl rfl rfl (fun _ => rfl) fun _ => rfl
end Bw
set_option Elab.async false
set_option linter.all false
set_option maxRecDepth 100000
set_option maxHeartbeats 4000000
namespace Bw
open PySem PySem.Spec PyProof.Rows L2
section
variable {P : Program} {w : World} {K : PySem.W.Frag} {mg : Str → Option Value} {base : Heap}
open VamvsbNeutral (callOf encode asked1)
open PyVamvsb (answers answers_asked whole shape)
open PyFlat (told played)
theorem cut_ints (l : List Int) (i j : Nat) (hj : j ≤ l.length) : cutV (l.map V.int) (some (i : Int)) (some (j : Int)) = ((l.drop i).take (j - i)).map V.int := by
  unfold cutV
  rw [HT.sIx_nat, HT.sIx_nat, List.length_map, Nat.min_eq_left hj, List.map_take, List.map_drop]
  by_cases c : i ≤ l.length
  · rw [Nat.min_eq_left c]
  · rw [Nat.min_eq_right (by omega), show j - l.length = 0 by omega, show j - i = 0 by omega, List.take_zero, List.take_zero]
theorem asked_inv {l : List Int} (h : answers_asked l = true) : ∃ raw, PyFlat.calls shape l.length l = some raw ∧ (∀ c ∈ raw, asked1 (whole c) = true) ∧ answers l = told (played VamvsbNeutral.step none (raw.map whole)) ∧ (answers l).length ≤ 10000000 := by
  unfold PyVamvsb.answers_asked at h
  cases e : PyFlat.calls shape l.length l with
  | none => rw [e] at h; cases h
  | some raw =>
    rw [e] at h
    dsimp only at h
    rw [Bool.and_eq_true, Bool.and_eq_true] at h
    obtain ⟨⟨_, h1⟩, h2⟩ := h
    refine ⟨raw, rfl, fun c hc => ?_, ?_, of_decide_eq_true h2⟩
    · unfold VamvsbNeutral.asked at h1
      rw [Bool.and_eq_true, List.all_eq_true] at h1
      exact h1.1 _ (List.mem_map_of_mem hc)
    · unfold PyVamvsb.answers PyVamvsb.calls
      rw [e]
      rfl
theorem calls_nil (n : Nat) : PyFlat.calls shape n [] = some [] := by cases n <;> rfl
theorem calls_cons {n : Nat} {p : Int} {r : List Int} {cs : List (List (List Int))} (h : PyFlat.calls shape n (p :: r) = some cs) : ∃ m c t cs', n = m + 1 ∧ PyFlat.call shape (p :: r) = some (c, t) ∧ PyFlat.calls shape m t = some cs' ∧ cs = c :: cs' := by
  cases n with
  | zero => cases h
  | succ m =>
    have h : (match PyFlat.call shape (p :: r) with
      | none => none
      | some (c, t) => match PyFlat.calls shape m t with
        | none => none
        | some cs => some (c :: cs)) = some cs := h
    cases e : PyFlat.call shape (p :: r) with
    | none => rw [e] at h; cases h
    | some x =>
      obtain ⟨c, t⟩ := x
      rw [e] at h
      have h : (match PyFlat.calls shape m t with
        | none => none
        | some cs => some (c :: cs)) = some cs := h
      cases e2 : PyFlat.calls shape m t with
      | none => rw [e2] at h; cases h
      | some cs' =>
        rw [e2] at h
        injection h with h
        exact ⟨m, c, t, cs', rfl, rfl, e2, h.symm⟩
theorem played_cons {o : Vamvsb.Obj} {c : List (List Int)} {k : Vamvsb.Call} (h : callOf (whole c) = some k) (cs : List (List (List Int))) :
    told (played VamvsbNeutral.step o ((c :: cs).map whole)) = ((encode (Vamvsb.step o k).2).length : Int) :: encode (Vamvsb.step o k).2 ++ told (played VamvsbNeutral.step (Vamvsb.step o k).1 (cs.map whole)) := by
  have e : VamvsbNeutral.step o (whole c) = ((Vamvsb.step o k).1, encode (Vamvsb.step o k).2) := by
    unfold VamvsbNeutral.step
    rw [h]
  show told ((VamvsbNeutral.step o (whole c)).2 :: played VamvsbNeutral.step (VamvsbNeutral.step o (whole c)).1 (cs.map whole)) = _
  rw [e]
  rfl
def sp_answers (K : PySem.W.Frag) : Sp := fun vs H Q _ => ∃ (a : Addr) (l : List Int), vs = [.ref a] ∧ SqL K H a (l.map V.int) ∧ answers_asked l = true ∧ ∀ (H' : Hp) (p : Addr), H' p = some (.lst ((answers l).map V.int)) → Q (.ref p) H'
theorem sc_answers : FnScope ["calls", "desk", "found", "at", "call", "behind", "end", "answer"] ["calls"] (defScope (top 110)) := ⟨rfl, rfl, rfl, by decide +kernel, rfl, by decide +kernel, by decide +kernel⟩
theorem ok_answers (T : Txt K mg) {fd : FuncData} (F : FunD K "answers" "answers" (defArgs (top 110)) (defBody (top 110)) (defScope (top 110)) [] [] (He.ga K "answers") fd) : FnOk P w K mg base CX0 12 (He.ga K "answers") fd ["calls"] (sp_answers K) := by
  refine F.ok sc_answers (fun vs H Q E h => by obtain ⟨_, _, rfl, _⟩ := h; rfl) fun cdv A outer s H vs Q E hr h => ?_
  refine ⟨_, PSs.nox (pss_cons (ps_set (i := 1) sc_answers.nd rfl (Or.inl rfl) (DefC.make0 (ok_Desk_init T) hr (by decide)))
    (pss_cons (ps_set (i := 2) sc_answers.nd rfl (Or.inl rfl) (pe_lst pa_nil))
    (pss_cons (ps_set (i := 3) sc_answers.nd rfl (Or.inl rfl) pe_int)
    (pss_cons (ps_while PassesOwn.never (pt_cmpR op_lt (pv 3) (pe_callB call_len_seq (by rfl) (fr_len T) PySem.boot_len (pa_cons (pv 0) pa_nil)) (nomark _))
      (pss_cons (ps_set (i := 4) sc_answers.nd rfl (Or.inl rfl) (pe_ix ix_list (pv 0) (pv 3) (fun _ _ => rfl)))
      (pss_cons (ps_set (i := 5) sc_answers.nd rfl (Or.inl rfl) (pe_op op_add (pe_op op_add (pv 3) pe_int) (pe_ix ix_tup (pe_gr (gl_NUMBERS T)) (pv 4) (fun _ _ => rfl))))
      (pss_cons (ps_set (i := 6) sc_answers.nd rfl (Or.inl rfl) (pv 5))
      (pss_cons (ps_if (pt_cmpR op_in_seq (pv 4) (pe_gr (gl_WITH_LIST T)) (by rfl))
        (pss_one (ps_set (i := 6) sc_answers.nd rfl (Or.inl rfl) (pe_op op_add (pe_op op_add (pv 5) pe_int) (pe_ix ix_list (pv 0) (pv 5) (fun _ _ => rfl)))))
        (pss_nil))
      (pss_cons (ps_set (i := 7) sc_answers.nd rfl (Or.inl rfl) (Def.call (ok_answer_to T) hr (by decide) (pa_cons (pv 1) (pa_cons (pv 4) (pa_cons (pe_slice sl_list (pv 0) (po_some (pe_op op_add (pv 3) pe_int)) (po_some (pv 5))) (pa_cons (pe_slice sl_list (pv 0) (po_some (pe_op op_add (pv 5) pe_int)) (po_some (pv 6))) pa_nil))))))
      (pss_cons (ps_expr (pe_bm PySem.F.plainAttrs_list PySem.F.slot_list_append PySem.F.type_list_append mt_append (pv 2) (pa_cons (pe_callB call_len_seq (by rfl) (fr_len T) PySem.boot_len (pa_cons (pv 7) pa_nil)) pa_nil)))
      (pss_cons (ps_expr (pe_bm PySem.F.plainAttrs_list PySem.F.slot_list_extend PySem.F.type_list_extend mt_extend (pv 2) (pa_cons (pv 7) pa_nil)))
      (pss_one (ps_set (i := 3) sc_answers.nd rfl (Or.inl rfl) (pv 6)))))))))))
    (pss_one (ps_ret (pv 2))))))), ?_⟩
  obtain ⟨a, l, rfl, ha, hask, h⟩ := h
  obtain ⟨raw, hraw, hall, hans, hmax⟩ := asked_inv hask
  generalize answers l = A at h hans hmax
  intro dk ddx ndk nddx nne
  have sdk : Same H (upd (upd H ddx (.own dk)) dk (.ins (He.ga K "Desk") ddx [])) := fun b o e => by
    rw [upd_ne (ne_of_none e ndk), upd_ne (ne_of_none e nddx)]
    exact e
  refine ⟨dk, ddx, rfl, upd_same, rfl, ?_⟩
  rw [upd_upd]
  have s0 : Same H (upd (upd H ddx (.own dk)) dk (.ins (He.ga K "Desk") ddx [("held", .non)])) := fun b o e => by
    rw [upd_ne (ne_of_none e ndk), upd_ne (ne_of_none e nddx)]
    exact e
  have f0 : (upd (upd H ddx (.own dk)) dk (.ins (He.ga K "Desk") ddx [("held", .non)])) dk = some (.ins (He.ga K "Desk") ddx (dkF .non)) := upd_same
  refine ⟨by show 0 ≤ sizeLine; decide, fun D hD => ?_⟩
  have sD := same_new (o := .lst []) hD
  have hDH : H D = none := s0.free hD
  refine ⟨fun m σ H1 => ∃ (i : Nat) (o : Vamvsb.Obj) (acc : List Int) (n : Nat) (cs : List (List (List Int))) (u v x y : Option V), m = l.length - i ∧ i ≤ l.length ∧ σ = [some (.ref a), some (.ref dk), some (.ref D), some (.int (i : Nat)), u, v, x, y] ∧
    DkAt K H H1 dk D o ∧ H1 D = some (.lst (acc.map V.int)) ∧ PyFlat.calls shape n (l.drop i) = some cs ∧ (∀ c ∈ cs, asked1 (whole c) = true) ∧ A = acc ++ told (played VamvsbNeutral.step o (cs.map whole)),
    ⟨l.length, 0, none, [], l.length, raw, _, _, _, _, rfl, Nat.zero_le _, rfl, ⟨s0.trans sD, ndk, hDH, ⟨_, upd_same⟩, ddx, .non, sD _ _ f0, rfl⟩, upd_same, hraw, hall, hans⟩, ?_⟩
  rintro m σ H1 ⟨i, o, acc, n, cs, u, v, x, y, rfl, hi, rfl, Dk, hD1, hcs, hall, heq⟩
  have hsame := Dk.same
  refine ⟨_, rfl, _, rfl, _, _, rfl, .inl (hsame.seq ha), _, _, rfl, rfl, _, rfl, ?_⟩
  rw [List.length_map]
  by_cases c0 : i < l.length
  · obtain ⟨p, hp⟩ : ∃ p, l[i]? = some p := ⟨_, List.getElem?_eq_getElem c0⟩
    have hdr : l.drop i = p :: l.drop (i + 1) := by
      obtain ⟨h1, h2⟩ := List.getElem?_eq_some_iff.mp hp
      rw [List.drop_eq_getElem_cons h1, h2]
    rw [hdr] at hcs
    obtain ⟨n', c, t, cs', rfl, hc, hcs2, rfl⟩ := calls_cons hcs
    obtain ⟨k, nn, e, wl, R⟩ := parse1 hdr hc (hall c (by simp))
    rw [played_cons R.of] at heq
    refine ifT (decide_eq_true (by omega)) ⟨_, fun _ _ z => z, _, rfl, _, rfl, _, _, _, _, rfl, rfl, hsame.seq ha, atI_map hp, ?_⟩
    refine ⟨_, rfl, _, _, rfl, rfl, _, rfl, _, _, _, _, rfl, rfl, tu_NUMBERS T H1, R.num, _, _, rfl, rfl, ?_⟩
    dsimp only
    rw [show (i : Int) + 1 + (nn : Nat) = ((i + 1 + nn : Nat) : Int) by omega]
    refine ⟨_, rfl, _, rfl, _, _, rfl, .inr (tu_WITH_LIST T H1), rfl, rfl, _, rfl, ?_⟩
    rw [if_neg Bool.false_ne_true, R.inw]
    cases wl with
    | true =>
      obtain ⟨m, hm, he⟩ := R.cnt rfl
      refine ifT rfl ⟨_, rfl, _, _, rfl, rfl, _, rfl, _, rfl, _, _, _, _, rfl, rfl, hsame.seq ha, atI_map hm, _, _, rfl, rfl, ?_⟩
      dsimp only
      rw [show ((i + 1 + nn : Nat) : Int) + 1 + (m : Nat) = ((e : Nat) : Int) by omega]
      refine ⟨_, rfl, _, rfl, _, rfl, _, rfl, _, _, rfl, rfl, ((i + 1 : Nat) : Int), rfl, _, rfl, ((i + 1 + nn : Nat) : Int), rfl, a, _, rfl, hsame.seq ha, fun n1 hn1 => ?_⟩
      rw [cut_ints l (i + 1) (i + 1 + nn) R.le1, show i + 1 + nn - (i + 1) = nn by omega]
      have sn : Same H1 (upd H1 n1 (.lst (((l.drop (i + 1)).take nn).map V.int))) := same_new hn1
      have fn1 : (upd H1 n1 (.lst (((l.drop (i + 1)).take nn).map V.int))) n1 = some (.lst (((l.drop (i + 1)).take nn).map V.int)) := upd_same
      generalize (upd H1 n1 (.lst (((l.drop (i + 1)).take nn).map V.int))) = H2 at sn fn1 ⊢
      refine ⟨_, rfl, _, rfl, _, _, rfl, rfl, ((i + 1 + nn + 1 : Nat) : Int), rfl, _, rfl, ((e : Nat) : Int), rfl, a, _, rfl, (hsame.trans sn).seq ha, fun z1 hz1 => ?_⟩
      rw [cut_ints l (i + 1 + nn + 1) (e) R.le2]
      have sz : Same H2 (upd H2 z1 (.lst (((l.drop (i + 1 + nn + 1)).take (e - (i + 1 + nn + 1))).map V.int))) := same_new hz1
      have fz1 : (upd H2 z1 (.lst (((l.drop (i + 1 + nn + 1)).take (e - (i + 1 + nn + 1))).map V.int))) z1 = some (.lst (((l.drop (i + 1 + nn + 1)).take (e - (i + 1 + nn + 1))).map V.int)) := upd_same
      generalize (upd H2 z1 (.lst (((l.drop (i + 1 + nn + 1)).take (e - (i + 1 + nn + 1))).map V.int))) = H3 at sz fz1 ⊢
      refine ⟨dk, D, n1, z1, H, o, k, p, _, _, rfl, Dk.up (sn.trans sz), sz _ _ fn1, fz1, R.call, fun H5 q kl D5 nq hL => ?_⟩
      have hD5 := kl _ _ ((sn.trans sz) _ _ hD1)
      have hqD : q ≠ D := fun z => by rw [z, (sn.trans sz) _ _ hD1] at nq; cases nq
      generalize hst : Vamvsb.step o k = st at D5 hL heq
      generalize hen : encode st.2 = L at hL heq
      have hlen : acc.length + (1 + L.length) ≤ 10000000 := by
        have := congrArg List.length heq
        rw [List.length_append, List.length_append, List.length_cons] at this
        omega
      refine ⟨_, rfl, .inl ⟨rfl, _, SqL.of hD5⟩, _, rfl, _, _, rfl, .inl (SqL.of hL), _, _, _, rfl, rfl, hD5, ?_, ?_⟩
      · rw [List.length_map, sizeLine_eq]
        omega
      refine ⟨_, rfl, .inl ⟨rfl, _, SqL.of upd_same⟩, _, rfl, _, _, _, _, rfl, rfl, upd_same, (upd_ne hqD).trans hL, ?_, ?_⟩
      · rw [List.length_append, List.length_map, List.length_map, sizeLine_eq]
        show acc.length + 1 + L.length ≤ _
        omega
      rw [upd_upd, List.length_map]
      refine ⟨_, rfl, l.length - (e), by have := R.lt; omega, e, st.1, acc ++ ((L.length : Int) :: L), n', cs', _, _, _, _, rfl, R.le2, rfl, ?_, ?_, ?_, fun c' hc' => hall c' (List.mem_cons_of_mem _ hc'), ?_⟩
      · obtain ⟨g1, g2, g2', _, ddx, v', g3, g4⟩ := D5
        have hDdk : D ≠ dk := ne_of hD5 g3 (by intro z; cases z)
        refine ⟨fun c' o' e' => ?_, g2, g2', ⟨_, upd_same⟩, ddx, v', (upd_ne (Ne.symm hDdk)).trans g3, ?_⟩
        · rw [upd_ne (fun z => by rw [z, hDH] at e'; cases e')]
          exact g1 _ _ e'
        · cases hso : st.1 with
          | none => rw [hso] at g4; exact g4
          | some z =>
            rw [hso] at g4
            obtain ⟨hh, bb, g5, g6, g7⟩ := g4
            refine ⟨hh, bb, g5, ?_, g7⟩
            rw [newer_skip upd_same]
            exact g6
      · rw [upd_same, List.map_append, List.map_cons, List.append_assoc]
        rfl
      · rw [← R.rest]
        exact hcs2
      · rw [heq, List.append_assoc]

    | false =>
      obtain rfl : e = i + 1 + nn := R.no rfl
      refine ifF rfl ?_
      refine ⟨_, rfl, _, rfl, _, rfl, _, rfl, _, _, rfl, rfl, ((i + 1 : Nat) : Int), rfl, _, rfl, ((i + 1 + nn : Nat) : Int), rfl, a, _, rfl, hsame.seq ha, fun n1 hn1 => ?_⟩
      rw [cut_ints l (i + 1) (i + 1 + nn) R.le1, show i + 1 + nn - (i + 1) = nn by omega]
      have sn : Same H1 (upd H1 n1 (.lst (((l.drop (i + 1)).take nn).map V.int))) := same_new hn1
      have fn1 : (upd H1 n1 (.lst (((l.drop (i + 1)).take nn).map V.int))) n1 = some (.lst (((l.drop (i + 1)).take nn).map V.int)) := upd_same
      generalize (upd H1 n1 (.lst (((l.drop (i + 1)).take nn).map V.int))) = H2 at sn fn1 ⊢
      refine ⟨_, rfl, _, rfl, _, _, rfl, rfl, ((i + 1 + nn + 1 : Nat) : Int), rfl, _, rfl, ((i + 1 + nn : Nat) : Int), rfl, a, _, rfl, (hsame.trans sn).seq ha, fun z1 hz1 => ?_⟩
      rw [cut_ints l (i + 1 + nn + 1) (i + 1 + nn) R.le2]
      have sz : Same H2 (upd H2 z1 (.lst (((l.drop (i + 1 + nn + 1)).take (i + 1 + nn - (i + 1 + nn + 1))).map V.int))) := same_new hz1
      have fz1 : (upd H2 z1 (.lst (((l.drop (i + 1 + nn + 1)).take (i + 1 + nn - (i + 1 + nn + 1))).map V.int))) z1 = some (.lst (((l.drop (i + 1 + nn + 1)).take (i + 1 + nn - (i + 1 + nn + 1))).map V.int)) := upd_same
      generalize (upd H2 z1 (.lst (((l.drop (i + 1 + nn + 1)).take (i + 1 + nn - (i + 1 + nn + 1))).map V.int))) = H3 at sz fz1 ⊢
      refine ⟨dk, D, n1, z1, H, o, k, p, _, _, rfl, Dk.up (sn.trans sz), sz _ _ fn1, fz1, R.call, fun H5 q kl D5 nq hL => ?_⟩
      have hD5 := kl _ _ ((sn.trans sz) _ _ hD1)
      have hqD : q ≠ D := fun z => by rw [z, (sn.trans sz) _ _ hD1] at nq; cases nq
      generalize hst : Vamvsb.step o k = st at D5 hL heq
      generalize hen : encode st.2 = L at hL heq
      have hlen : acc.length + (1 + L.length) ≤ 10000000 := by
        have := congrArg List.length heq
        rw [List.length_append, List.length_append, List.length_cons] at this
        omega
      refine ⟨_, rfl, .inl ⟨rfl, _, SqL.of hD5⟩, _, rfl, _, _, rfl, .inl (SqL.of hL), _, _, _, rfl, rfl, hD5, ?_, ?_⟩
      · rw [List.length_map, sizeLine_eq]
        omega
      refine ⟨_, rfl, .inl ⟨rfl, _, SqL.of upd_same⟩, _, rfl, _, _, _, _, rfl, rfl, upd_same, (upd_ne hqD).trans hL, ?_, ?_⟩
      · rw [List.length_append, List.length_map, List.length_map, sizeLine_eq]
        show acc.length + 1 + L.length ≤ _
        omega
      rw [upd_upd, List.length_map]
      refine ⟨_, rfl, l.length - (i + 1 + nn), by have := R.lt; omega, i + 1 + nn, st.1, acc ++ ((L.length : Int) :: L), n', cs', _, _, _, _, rfl, R.le2, rfl, ?_, ?_, ?_, fun c' hc' => hall c' (List.mem_cons_of_mem _ hc'), ?_⟩
      · obtain ⟨g1, g2, g2', _, ddx, v', g3, g4⟩ := D5
        have hDdk : D ≠ dk := ne_of hD5 g3 (by intro z; cases z)
        refine ⟨fun c' o' e' => ?_, g2, g2', ⟨_, upd_same⟩, ddx, v', (upd_ne (Ne.symm hDdk)).trans g3, ?_⟩
        · rw [upd_ne (fun z => by rw [z, hDH] at e'; cases e')]
          exact g1 _ _ e'
        · cases hso : st.1 with
          | none => rw [hso] at g4; exact g4
          | some z =>
            rw [hso] at g4
            obtain ⟨hh, bb, g5, g6, g7⟩ := g4
            refine ⟨hh, bb, g5, ?_, g7⟩
            rw [newer_skip upd_same]
            exact g6
      · rw [upd_same, List.map_append, List.map_cons, List.append_assoc]
        rfl
      · rw [← R.rest]
        exact hcs2
      · rw [heq, List.append_assoc]

  · refine ifF (decide_eq_false (by omega)) ⟨_, rfl, h H1 D ?_⟩
    rw [List.drop_eq_nil_of_le (by omega), calls_nil] at hcs
    injection hcs with hcs
    subst hcs
    have heq : A = acc ++ [] := heq
    rw [hD1, heq, List.append_nil]
end
end Bw
set_option Elab.async false
set_option linter.all false
set_option maxRecDepth 100000
set_option maxHeartbeats 0
namespace Bw
open PySem PySem.W PySem.Calls PyProof.Rows HandSHeadRun
abbrev qv : Program := view prg [110]
/-- the state behind the top -/
noncomputable abbrev endB (w : World) (os : OsState) : Option PySem.W.SharedT := endF (stepQ (denQ tabQ) prg w) 20000 prg w os
abbrev col {β : Type} (s : PySem.W.SharedT) (k : PySem.W.Frag → β) : β := colG (getT s) (asK (getT s)) k
theorem run1 (w : World) (os : OsState) : (endB w os).map (fun s => looksF prg (boot_heap w.params) s.abs) = some true := by kernel_rfl
theorem run2 (w : World) (os : OsState) : (endB w os).map (fun s => seenQ qv names (importedModules prg.main.body) (fun s => xlAt qv [] s && recOk [] s) s.abs) = some (openGood qv names) := by kernel_rfl
theorem run3 (w : World) (os : OsState) : (endB w os).map (fun s => col s fun K => fa.all fun f => f.ok K) = some true := by kernel_rfl
theorem run4 (w : World) (os : OsState) : (endB w os).map (fun s => col s fun K => (fn.all fun f => f.ok K, more K)) = some (true, true) := by kernel_rfl
theorem run5 (w : World) (os : OsState) : (endB w os).map (fun s => col s fun K => fn.map fun d => He.fnW K d.at_) = some (fn.map He.DefD.val) := by kernel_rfl
abbrev hk : PySem.W.Hook := hookM fa fn more
theorem run (w : World) (os : OsState) : (endB w os).map (fun s => (looksF prg (boot_heap w.params) s.abs, seenQ qv names (importedModules prg.main.body) (fun s => xlAt qv [] s && recOk [] s) s.abs, obsM fa fn more (He.frG (getT s) (asK (getT s))))) = some (true, openGood qv names, hk.val w) := by
  have h1 := run1 w os
  have h2 := run2 w os
  have h3 := run3 w os
  have h4 := run4 w os
  have h5 := run5 w os
  revert h1 h2 h3 h4 h5
  generalize endB w os = o
  intro h1 h2 h3 h4 h5
  cases o with
  | none => cases h1
  | some s =>
    have h1 := Option.some.inj h1
    have h2 := Option.some.inj h2
    have h3 := Option.some.inj h3
    have h4 := Option.some.inj h4
    have h5 := Option.some.inj h5
    have h3 : (fa.all fun f => f.ok (He.frG (getT s) (asK (getT s)))) = true := (colG_eq (getT s) (asK (getT s)) fun K => fa.all fun f => f.ok K).symm.trans h3
    have h4 : (fn.all fun f => f.ok (He.frG (getT s) (asK (getT s))), more (He.frG (getT s) (asK (getT s)))) = (true, true) := (colG_eq (getT s) (asK (getT s)) fun K => (fn.all fun f => f.ok K, more K)).symm.trans h4
    have h5 : (fn.map fun d => He.fnW (He.frG (getT s) (asK (getT s))) d.at_) = fn.map He.DefD.val := (colG_eq (getT s) (asK (getT s)) fun K => fn.map fun d => He.fnW K d.at_).symm.trans h5
    have h41 := congrArg Prod.fst h4
    have h42 := congrArg Prod.snd h4
    dsimp only at h1 h2 h41 h42
    show some (looksF prg (boot_heap w.params) s.abs, seenQ qv names (importedModules prg.main.body) (fun s => xlAt qv [] s && recOk [] s) s.abs, obsM fa fn more (He.frG (getT s) (asK (getT s)))) = some (true, openGood qv names, valM fn)
    rw [h1, h2]
    unfold obsM valM He.obsD He.valD
    rw [h3, h41, h42, h5]
    rfl
theorem left : LeftO prg qv names (fun s => xlAt qv [] s && recOk [] s) hk.obs hk.val 20600 true :=
  left_one (M := 20000) (by kernel_rfl) (Nat.ble_eq_true_of_le (by omega)) (fun s => by kernel_rfl) (Nat.ble_eq_true_of_le (by omega)) fun w os => by
    have z := run w os
    have eo : (fun s : PySem.W.SharedT => (looksF prg (boot_heap w.params) s.abs, seenQ qv names (importedModules prg.main.body) (fun s => xlAt qv [] s && recOk [] s) s.abs, obsM fa fn more (He.frG (getT s) (asK (getT s))))) = fun s => (looksF prg (boot_heap w.params) s.abs, seenQ qv names (importedModules prg.main.body) (fun s => xlAt qv [] s && recOk [] s) s.abs, hk.obs s.abs) := by
      funext s
      exact congrArg (fun z => (looksF prg (boot_heap w.params) s.abs, seenQ qv names (importedModules prg.main.body) (fun s => xlAt qv [] s && recOk [] s) s.abs, z)) (obsM_eq (fa := fa) (fn := fn) (more := more) (s := s.abs) (getT_eq s))
    rw [eo] at z
    simp only [endQ_eq, seenQ_eq]
    exact z
end Bw
set_option Elab.async false
set_option linter.all false
set_option maxRecDepth 100000
set_option maxHeartbeats 8000000
open PySem PySem.W PyProof.Rows
theorem PySem.Challenge.cw_bestkept_s01_answers_holds : PySem.Challenge.rw_bestkept_s01_answers.Holds := by
  w_on
  refine holds_os (r := PySem.Challenge.rw_bestkept_s01_answers) (q := Bw.qv) (loose := Bw.names) (XP := XL Bw.qv []) (YP := Bw.hk.says) (kwd := []) Bw.left Bw.hk.of Bw.hk.keeps
    (fun s z => xl_of s (Bool.and_eq_true_iff.mp z).1) XL.keeps (by rfl) (by rfl) (by rfl) (fun s z => recFacts_of (Bool.and_eq_true_iff.mp z).2) os_shapes (by first | assumption | decide +kernel) (by decide +kernel) ⟨rfl, rfl, rfl, rfl, rfl, by decide +kernel⟩ ?hw ?hc
  case hw => exact ⟨[.list [.int 3]], by decide +kernel, by decide +kernel⟩
  case hc =>
    refine Bw.walk_specE (r := PySem.Challenge.rw_bestkept_s01_answers) (k := 12) (CX := L2.CX0) (ps := ["calls"]) (sp := Bw.sp_answers) (by decide +kernel) rfl ⟨rfl, by decide, by decide⟩ ?F ?S (fun _ _ _ _ z => z)
    case F =>
      intro w mg fa h Y G hmg
      obtain ⟨K, KX, c⟩ := Y
      have T : Bw.Txt K mg := ⟨c, h, KX, G⟩
      obtain ⟨fd, F⟩ := Bw.fd_answers T
      have e := hmg.symm.trans (Bw.gl_answers T)
      cases e
      exact ⟨K, fd, KX, fun s us hu => L2.FunD.bindsA (ps := ["calls"]) F (fun _ _ _ _ _ _ us hl => match us, hl with | [_], _ => rfl) s us hu, fun base _ _ => Bw.ok_answers T F⟩
    case S =>
      intro K H xs a hO hwi hask hx
      cases hx with
      | cons h1 h2 =>
        cases h2
        cases h1 with
        | lst hs ha =>
          have e := L2.ints_dw a.1 _ ha
          subst e
          exact ⟨_, a.1, rfl, hs, hask, fun H' p hp => .lst (L2.SqL.of hp) (L2.dw_ints _)⟩
