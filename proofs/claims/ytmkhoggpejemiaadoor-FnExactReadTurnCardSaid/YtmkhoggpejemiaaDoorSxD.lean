/-
  The executor in stages; a law of the program out of a run; contracts of functions without a Go body.
-/
import Derived.Test.YtmkhoggpejemiaaDoorSxC
import Derived.ProofKit
import Derived.OpenShut
import Derived.Laws.Externs
set_option linter.unusedSimpArgs false
set_option linter.unusedVariables false
namespace Go.Sx
noncomputable section
/-! ### Slots by their paths -/
structure YG where
 f : Tr SV → Option SV
structure YS where
 f : SV → Tr SV → Tr SV
structure YE where
 f : St → SV
structure YP where
 f : SV → St → Option St
structure YO where
 f : Tab → St → Option (Tab × SV)
def gHere (t : Tr SV) : Option SV := Tr.rec (motive := fun _ => Option SV) none (fun _ v _ _ _ => v) t
def gL (k : YG) (t : Tr SV) : Option SV := Tr.rec (motive := fun _ => Option SV) none (fun l _ _ _ _ => k.f l) t
def gR (k : YG) (t : Tr SV) : Option SV := Tr.rec (motive := fun _ => Option SV) none (fun _ _ r _ _ => k.f r) t
def yG : Nat → Nat → YG
 | 0, _ => ⟨fun _ => none⟩
 | n + 1, j =>
  match Nat.beq j 1 with
  | true => ⟨gHere⟩
  | false =>
   match Nat.beq (Nat.mod j 2) 0 with
   | true => ⟨gL (yG n (Nat.div j 2))⟩
   | false => ⟨gR (yG n (Nat.div j 2))⟩
theorem yG_eq : ∀ (n j : Nat) (t : Tr SV), j ≠ 0 → j < 2 ^ n → (yG n j).f t = t.getJ j
 | 0, j, t, h0, h => by omega
 | n + 1, j, t, h0, h => by
  unfold yG
  by_cases h1 : j = 1
  · subst h1
    cases t <;> rfl
  · simp only [nbeq_false h1]
    have hd : Nat.div j 2 ≠ 0 ∧ Nat.div j 2 < 2 ^ n := by
     have : Nat.div j 2 = j / 2 := rfl
     rw [this]
     rw [Nat.pow_succ] at h
     omega
    by_cases h2 : j % 2 = 0
    · have : Nat.beq (Nat.mod j 2) 0 = true := by rw [show Nat.mod j 2 = 0 from h2]; rfl
      simp only [this]
      cases t with
      | nil => rfl
      | node l v r =>
       rw [Tr.getJ_node, if_neg h1, if_pos h2]
       exact yG_eq n _ l hd.1 hd.2
    · have : Nat.beq (Nat.mod j 2) 0 = false := nbeq_false h2
      simp only [this]
      cases t with
      | nil => rfl
      | node l v r =>
       rw [Tr.getJ_node, if_neg h1, if_neg h2]
       exact yG_eq n _ r hd.1 hd.2
def sHere (x : SV) (t : Tr SV) : Tr SV := Tr.rec (motive := fun _ => Tr SV) (.node .nil (some x) .nil) (fun l _ r _ _ => .node l (some x) r) t
def sL (k : YS) (x : SV) (t : Tr SV) : Tr SV := Tr.rec (motive := fun _ => Tr SV) (.node (k.f x .nil) none .nil) (fun l v r _ _ => .node (k.f x l) v r) t
def sR (k : YS) (x : SV) (t : Tr SV) : Tr SV := Tr.rec (motive := fun _ => Tr SV) (.node .nil none (k.f x .nil)) (fun l v r _ _ => .node l v (k.f x r)) t
def yS : Nat → Nat → YS
 | 0, _ => ⟨fun _ _ => .nil⟩
 | n + 1, j =>
  match Nat.beq j 1 with
  | true => ⟨sHere⟩
  | false =>
   match Nat.mod j 2 with
   | 0 => ⟨sL (yS n (Nat.div j 2))⟩
   | _ + 1 => ⟨sR (yS n (Nat.div j 2))⟩
theorem yS_eq : ∀ (n j : Nat) (x : SV) (t : Tr SV), (yS n j).f x t = Tr.setJ x n t j
 | 0, j, x, t => by cases t <;> rfl
 | n + 1, j, x, t => by
  unfold yS
  cases hb : Nat.beq j 1 with
  | true =>
   have := Nat.eq_of_beq_eq_true hb
   subst this
   cases t <;> rfl
  | false =>
   simp only
   cases hm : Nat.mod j 2 with
   | zero =>
    cases t with
    | nil =>
     show Tr.node ((yS n (Nat.div j 2)).f x .nil) none .nil = (Bool.rec (Nat.rec (.node (Tr.oneJ x n (Nat.div j 2)) none .nil) (fun _ _ => .node .nil none (Tr.oneJ x n (Nat.div j 2))) (Nat.mod j 2)) (.node .nil (some x) .nil) (Nat.beq j 1) : Tr SV)
     rw [hb, hm, yS_eq n, ← Tr.oneJ_set]; first | rfl | done
    | node l v r =>
     show Tr.node ((yS n (Nat.div j 2)).f x l) v r = (Bool.rec (Nat.rec (.node (Tr.setJ x n l (Nat.div j 2)) v r) (fun _ _ => .node l v (Tr.setJ x n r (Nat.div j 2))) (Nat.mod j 2)) (.node l (some x) r) (Nat.beq j 1) : Tr SV)
     rw [hb, hm, yS_eq n]; first | rfl | done
   | succ m =>
    cases t with
    | nil =>
     show Tr.node .nil none ((yS n (Nat.div j 2)).f x .nil) = (Bool.rec (Nat.rec (.node (Tr.oneJ x n (Nat.div j 2)) none .nil) (fun _ _ => .node .nil none (Tr.oneJ x n (Nat.div j 2))) (Nat.mod j 2)) (.node .nil (some x) .nil) (Nat.beq j 1) : Tr SV)
     rw [hb, hm, yS_eq n, ← Tr.oneJ_set]; first | rfl | done
    | node l v r =>
     show Tr.node l v ((yS n (Nat.div j 2)).f x r) = (Bool.rec (Nat.rec (.node (Tr.setJ x n l (Nat.div j 2)) v r) (fun _ _ => .node l v (Tr.setJ x n r (Nat.div j 2))) (Nat.mod j 2)) (.node l (some x) r) (Nat.beq j 1) : Tr SV)
     rw [hb, hm, yS_eq n]; first | rfl | done
/-! ### Operands -/
def eTmp (k : YG) (st : St) : SV := St.rec (motive := fun _ => SV) (fun _ fr _ _ _ => Option.rec (motive := fun _ => SV) SV.un (fun v => v) (k.f fr)) st
def eCon (v : SV) (_ : St) : SV := v
def yE (x : Operand) : YE :=
 match x with
 | .tmp t => match Nat.blt (Nat.succ t) 262144 with
  | true => ⟨eTmp (yG 18 (Nat.succ t))⟩
  | false => ⟨fun st => st.eval (.tmp t)⟩
 | .const v => ⟨eCon (SV.ofConst v)⟩
 | .func f => ⟨eCon (.c (.raw (.func (.func f) #[] #[])))⟩
 | .global _ => ⟨eCon .un⟩
theorem yE_eq (x : Operand) (st : St) : (yE x).f st = st.eval x := by
 cases x with
 | tmp t =>
  unfold yE
  dsimp only
  split
  · rename_i h
    have hlt : Nat.succ t < 2 ^ 18 := Nat.le_of_ble_eq_true h
    show (Option.rec SV.un (fun v => v) ((yG 18 (Nat.succ t)).f st.fr) : SV) = _
    rw [yG_eq 18 _ _ (by omega) hlt]
    show (Option.rec SV.un (fun v => v) (st.fr.get t) : SV) = (match st.fr.get t with | some v => v | none => .un)
    cases st.fr.get t <;> rfl
  · rfl
 | const v => rfl
 | func f => rfl
 | global g => rfl
def pPut (i : Nat) (k : YS) (v : SV) (st : St) : Option St :=
 St.rec (motive := fun _ => Option St) (fun nt fr nb bs fa => Bool.rec (motive := fun _ => Option St) (some ⟨nt, k.f v fr, nb, bs, fa⟩) none (Nat.ble nt i)) st
def yP : Option Nat → YP
 | none => ⟨fun _ st => some st⟩
 | some i => ⟨pPut i (yS fuelT (Nat.succ i))⟩
theorem yP_eq (d : Option Nat) (v : SV) (st : St) : (yP d).f v st = st.put d v := by
 cases d with
 | none => rfl
 | some i =>
  obtain ⟨nt, fr, nb, bs, fa⟩ := st
  show (Bool.rec (some ⟨nt, (yS fuelT (Nat.succ i)).f v fr, nb, bs, fa⟩) none (Nat.ble nt i) : Option St) = _
  rw [yS_eq]
  unfold St.put
  dsimp only
  cases Nat.ble nt i <;> rfl
/-! ### Values laid open -/
abbrev R1 := Option (Tab × SV)
def onC (s : SV) (k : SC → R1) : R1 := SV.rec (motive := fun _ => R1) none (fun w => SW.rec (motive := fun _ => R1) (fun c => k c) (fun _ => none) w) (fun _ => none) s
def onPtr (s : SV) (k : Nat → Nat → R1) : R1 := onC s fun c => match c with | .ptr i o => k i o | _ => none
def onInt (s : SV) (k : IntKind → X → R1) : R1 := onC s fun c => match c with | .int i o => k i o | _ => none
def onFlt (s : SV) (k : FloatKind → X → R1) : R1 := onC s fun c => match c with | .flt i o => k i o | _ => none
def onX (x : X) (k : Int → R1) (e : R1) : R1 := X.rec (motive := fun _ => R1) k (fun _ => e) x
def onI (n : Int) (k : Nat → R1) : R1 := Int.rec (motive := fun _ => R1) k (fun _ => none) n
def onNat (s : SV) (k : Nat → R1) : R1 := onInt s fun _ x => onX x (fun n => onI n k) none
def whenB (b : Bool) (r : R1) : R1 := Bool.rec (motive := fun _ => R1) none r b
theorem onPtr_eq (s : SV) (k : Nat → Nat → R1) : onPtr s k = (match s with | .w (.one (.ptr i o)) => k i o | _ => none) := by
 cases s with
 | w x => cases x with
  | one c => cases c <;> rfl
  | agg l => rfl
 | _ => rfl
theorem onNat_eq (s : SV) (k : Nat → R1) : onNat s k = (match natOf s with | some n => k n | none => none) := by
 cases s with
 | w x => cases x with
  | one c => cases c with
   | int kk x => cases x with
    | lit n => cases n <;> rfl
    | reg r => rfl
   | _ => rfl
  | agg l => rfl
 | _ => rfl
def nthC (l : List SC) : Nat → Option SC :=
 List.rec (motive := fun _ => Nat → Option SC) (fun _ => none) (fun c _ ih n => Nat.rec (motive := fun _ => Option SC) (some c) (fun m _ => ih m) n) l
theorem nthC_eq : ∀ (l : List SC) (n : Nat), nthC l n = l[n]?
 | [], _ => rfl
 | _ :: _, 0 => rfl
 | c :: l, n + 1 => by rw [List.getElem?_cons_succ, ← nthC_eq l n]; rfl
end
end Go.Sx

namespace Go.Sx
noncomputable section
/-! ### Whole numbers -/
structure YI where
 f : Tab → IntKind → X → X → R1
def lit2 (x y : X) (yes : Int → Int → R1) (no : R1) : R1 := onX x (fun a => onX y (fun b => yes a b) no) no
def wrapY (k : IntKind) (n : Int) : Int :=
 Int.rec (motive := fun _ => Int) (fun m => Bool.rec (motive := fun _ => Int) (k.wrap n) n (Nat.blt m 128)) (fun _ => k.wrap n) n
def ltY (a b : Int) : Bool :=
 Int.rec (motive := fun _ => Bool) (fun m => Int.rec (motive := fun _ => Bool) (fun n => Nat.blt m n) (fun _ => false) b)
  (fun m => Int.rec (motive := fun _ => Bool) (fun _ => true) (fun n => Nat.blt n m) b) a
theorem wrapY_eq (k : IntKind) (n : Int) : wrapY k n = k.wrap n := by
 cases n with
 | negSucc m => rfl
 | ofNat m =>
  show (Bool.rec (k.wrap (Int.ofNat m)) (Int.ofNat m) (Nat.blt m 128) : Int) = _
  cases h : Nat.blt m 128 with
  | false => rfl
  | true =>
   have hlt : m < 128 := Nat.le_of_ble_eq_true h
   show Int.ofNat m = k.wrap (Int.ofNat m)
   unfold IntKind.wrap
   cases k <;> simp [IntKind.bits, IntKind.signed] <;> omega
theorem ltY_eq (a b : Int) : ltY a b = decide (a < b) := by
 cases a with
 | ofNat m => cases b with
  | ofNat n =>
   show Nat.blt m n = _
   by_cases h : m < n
   · have h2 : (Int.ofNat m < Int.ofNat n) := Int.ofNat_lt.2 h
     rw [decide_eq_true h2]
     exact Nat.ble_eq_true_of_le h
   · have h2 : ¬ (Int.ofNat m < Int.ofNat n) := fun e => h (Int.ofNat_lt.1 e)
     rw [decide_eq_false h2]
     cases hb : Nat.blt m n with
     | false => rfl
     | true => exact absurd (Nat.le_of_ble_eq_true hb) h
  | negSucc n =>
   have h2 : ¬ (Int.ofNat m < Int.negSucc n) := by show ¬ ((m : Int) < Int.negSucc n); omega
   rw [decide_eq_false h2]; rfl
 | negSucc m => cases b with
  | ofNat n =>
   have h2 : (Int.negSucc m < Int.ofNat n) := by show (Int.negSucc m < (n : Int)); omega
   rw [decide_eq_true h2]; rfl
  | negSucc n =>
   show Nat.blt n m = _
   by_cases h : n < m
   · have h2 : (Int.negSucc m < Int.negSucc n) := by omega
     rw [decide_eq_true h2]
     exact Nat.ble_eq_true_of_le h
   · have h2 : ¬ (Int.negSucc m < Int.negSucc n) := by omega
     rw [decide_eq_false h2]
     cases hb : Nat.blt n m with
     | false => rfl
     | true => exact absurd (Nat.le_of_ble_eq_true hb) h
theorem mk_lit2 (T : Tab) (f : Nat) (a b : Int) (hf : Nat.beq f 66 = false := by rfl) : mk T f [.lit a, .lit b] = some (T, .lit (opF f [a, b])) := by unfold mk litsOf; rw [hf]; rfl
theorem mk_lit1 (T : Tab) (f : Nat) (a : Int) (hf : Nat.beq f 66 = false := by rfl) : mk T f [.lit a] = some (T, .lit (opF f [a])) := by unfold mk litsOf; rw [hf]; rfl
theorem mk_lit3 (T : Tab) (f : Nat) (k a b : Int) (hf : Nat.beq f 66 = false := by rfl) : mk T f [.lit k, .lit a, .lit b] = some (T, .lit (opF f [k, a, b])) := by unfold mk litsOf; rw [hf]; rfl
theorem mk_l14 (T : Tab) (a b : Int) : mk T 14 [.lit a, .lit b] = some (T, .lit (opF 14 [a, b])) := mk_lit2 T 14 a b rfl
theorem mk_l15 (T : Tab) (a b : Int) : mk T 15 [.lit a, .lit b] = some (T, .lit (opF 15 [a, b])) := mk_lit2 T 15 a b rfl
theorem mk_l37 (T : Tab) (a : Int) : mk T 37 [.lit a] = some (T, .lit (opF 37 [a])) := mk_lit1 T 37 a rfl
theorem mk_l31 (T : Tab) (k a b : Int) : mk T 31 [.lit k, .lit a, .lit b] = some (T, .lit (opF 31 [k, a, b])) := mk_lit3 T 31 k a b rfl
theorem mk_l32 (T : Tab) (k a b : Int) : mk T 32 [.lit k, .lit a, .lit b] = some (T, .lit (opF 32 [k, a, b])) := mk_lit3 T 32 k a b rfl
theorem mk_l33 (T : Tab) (k a b : Int) : mk T 33 [.lit k, .lit a, .lit b] = some (T, .lit (opF 33 [k, a, b])) := mk_lit3 T 33 k a b rfl
theorem kindNo_of (k : IntKind) : kindOf (kindNo k : Int).toNat = k := by cases k <;> rfl
def iGen (op : BinOp) (T : Tab) (k : IntKind) (x y : X) : R1 := resT (intOp T op k x y)
def iAdd (T : Tab) (k : IntKind) (x y : X) : R1 := lit2 x y (fun a b => some (T, .w (.one (.int k (.lit (wrapY k (Int.add a b))))))) (iGen .add T k x y)
def iSub (T : Tab) (k : IntKind) (x y : X) : R1 := lit2 x y (fun a b => some (T, .w (.one (.int k (.lit (wrapY k (Int.sub a b))))))) (iGen .sub T k x y)
def bLit (T : Tab) (b : Bool) : R1 := some (T, .w (.one (.bool (.lit (b2iY b)))))
def iLss (T : Tab) (k : IntKind) (x y : X) : R1 := lit2 x y (fun a b => bLit T (ltY a b)) (iGen .lss T k x y)
def iGtr (T : Tab) (k : IntKind) (x y : X) : R1 := lit2 x y (fun a b => bLit T (ltY b a)) (iGen .gtr T k x y)
def iLeq (T : Tab) (k : IntKind) (x y : X) : R1 := lit2 x y (fun a b => bLit T (not (ltY b a))) (iGen .leq T k x y)
def iGeq (T : Tab) (k : IntKind) (x y : X) : R1 := lit2 x y (fun a b => bLit T (not (ltY a b))) (iGen .geq T k x y)
def iEql (T : Tab) (k : IntKind) (x y : X) : R1 := lit2 x y (fun a b => bLit T (ibeq a b)) (iGen .eql T k x y)
def iNeq (T : Tab) (k : IntKind) (x y : X) : R1 := lit2 x y (fun a b => bLit T (not (ibeq a b))) (iGen .neq T k x y)
def yI (op : BinOp) : YI :=
 match op with
 | .add => ⟨iAdd⟩
 | .sub => ⟨iSub⟩
 | .lss => ⟨iLss⟩
 | .gtr => ⟨iGtr⟩
 | .leq => ⟨iLeq⟩
 | .geq => ⟨iGeq⟩
 | .eql => ⟨iEql⟩
 | .neq => ⟨iNeq⟩
 | op => ⟨iGen op⟩
theorem ibeq_iff (a b : Int) : ibeq a b = (a == b) := by
 cases h : ibeq a b with
 | true => rw [ibeq_eq h]; simp
 | false =>
  have : a ≠ b := fun e => by
   subst e
   cases a <;> simp [ibeq] at h
  simp [this]
theorem b2i_not (b : Bool) : opF 37 [b2i b] = b2i (!b) := by cases b <;> rfl
theorem yI_eq (op : BinOp) (T : Tab) (k : IntKind) (x y : X) : (yI op).f T k x y = resT (intOp T op k x y) := by
 cases op <;> first
  | rfl
  | (cases x with
    | reg r => rfl
    | lit a => cases y with
     | reg r => rfl
     | lit b =>
      simp only [yI, iAdd, iSub, iLss, iGtr, iLeq, iGeq, iEql, iNeq, lit2, onX, bLit, intOp, mkNot, flip, mk_l14, mk_l15, mk_l37, mk_l31, mk_l32, mk_l33, asInt, asBool, resT, wrapY_eq, ltY_eq, b2iY_eq, ibeq_iff, opF_31, opF_32, opF_14, opF_15, b2i_not, kindNo_of, isOne_b2i]
      first | rfl | done)
/-! ### Binary operations -/
structure YB where
 f : Tab → Tr Bool → SV → SV → R1
def kindsY (k k' : IntKind) : Bool := Nat.beq (kindNo k) (kindNo k')
theorem kindsY_eq (k k' : IntKind) : kindsY k k' = decide (k = k') := by cases k <;> cases k' <;> rfl
def bInt (g : YI) (d : TD) (op : BinOp) (T : Tab) (fa : Tr Bool) (x y : SV) : R1 :=
 SV.rec (motive := fun _ => R1) (resT (binS T fa op d x y))
  (fun w => SW.rec (motive := fun _ => R1)
   (fun c => match c with
    | .int k a => onInt y fun k' b => whenB (kindsY k k') (g.f T k a b)
    | _ => resT (binS T fa op d x y))
   (fun _ => resT (binS T fa op d x y)) w)
  (fun _ => resT (binS T fa op d x y)) x
def fKinds (k k' : FloatKind) : Bool :=
 match k, k' with
 | .f32, .f32 => true
 | .f64, .f64 => true
 | _, _ => false
structure YF where
 f : Tab → FloatKind → X → X → R1
def fArith (a b : Nat) (T : Tab) (k : FloatKind) (x y : X) : R1 := resT (asFlt k (mk T (sel k a b) [x, y]))
def fGen (op : BinOp) (T : Tab) (k : FloatKind) (x y : X) : R1 := resT (floatOp T op k x y)
def yF (op : BinOp) : YF :=
 match op with
 | .add => ⟨fArith 0 4⟩
 | .sub => ⟨fArith 1 5⟩
 | .mul => ⟨fArith 2 6⟩
 | .quo => ⟨fArith 3 7⟩
 | op => ⟨fGen op⟩
theorem yF_eq (op : BinOp) (T : Tab) (k : FloatKind) (x y : X) : (yF op).f T k x y = resT (floatOp T op k x y) := by
 cases op <;> rfl
def bFlt (g : YF) (d : TD) (op : BinOp) (T : Tab) (fa : Tr Bool) (x y : SV) : R1 :=
 SV.rec (motive := fun _ => R1) (resT (binS T fa op d x y))
  (fun w => SW.rec (motive := fun _ => R1)
   (fun c => match c with
    | .flt k a => onFlt y fun k' b => whenB (fKinds k k') (g.f T k a b)
    | _ => resT (binS T fa op d x y))
   (fun _ => resT (binS T fa op d x y)) w)
  (fun _ => resT (binS T fa op d x y)) x
def bGen (d : TD) (op : BinOp) (T : Tab) (fa : Tr Bool) (x y : SV) : R1 := resT (binS T fa op d x y)
def yB (op : BinOp) (d : TD) : YB :=
 match d with
 | .int _ => ⟨bInt (yI op) d op⟩
 | .float _ => ⟨bFlt (yF op) d op⟩
 | d => ⟨bGen d op⟩
theorem bInt_eq (op : BinOp) (d : TD) (T : Tab) (fa : Tr Bool) (x y : SV) : bInt (yI op) d op T fa x y = resT (binS T fa op d x y) := by
 cases x with
 | w a =>
  cases a with
  | one c =>
   cases c with
   | int k a =>
    show onInt y (fun k' b => whenB (kindsY k k') ((yI op).f T k a b)) = _
    cases y with
    | w b =>
     cases b with
     | one c =>
      cases c with
      | int k' b =>
       show whenB (kindsY k k') ((yI op).f T k a b) = resT (if k = k' then intOp T op k a b else none)
       rw [kindsY_eq, yI_eq]
       by_cases h : k = k'
       · rw [decide_eq_true h, if_pos h]; rfl
       · rw [decide_eq_false h, if_neg h]; rfl
      | _ => rfl
     | agg l => rfl
    | _ => rfl
   | _ => rfl
  | agg l => rfl
 | _ => rfl
theorem bFlt_eq (op : BinOp) (d : TD) (T : Tab) (fa : Tr Bool) (x y : SV) : bFlt (yF op) d op T fa x y = resT (binS T fa op d x y) := by
 cases x with
 | w a =>
  cases a with
  | one c =>
   cases c with
   | flt k a =>
    show onFlt y (fun k' b => whenB (fKinds k k') ((yF op).f T k a b)) = _
    cases y with
    | w b =>
     cases b with
     | one c =>
      cases c with
      | flt k' b =>
       show whenB (fKinds k k') ((yF op).f T k a b) = resT (if k = k' then floatOp T op k a b else none)
       rw [yF_eq]
       cases k <;> cases k' <;> rfl
      | _ => rfl
     | agg l => rfl
    | _ => rfl
   | _ => rfl
  | agg l => rfl
 | _ => rfl
theorem yB_eq (op : BinOp) (d : TD) (T : Tab) (fa : Tr Bool) (x y : SV) : (yB op d).f T fa x y = resT (binS T fa op d x y) := by
 cases d <;> first | exact bInt_eq _ _ _ _ _ _ | exact bFlt_eq _ _ _ _ _ _ | rfl
/-! ### The operations -/
def oMove (x : YE) (T : Tab) (st : St) : R1 := some (T, x.f st)
def oNone (_ : Tab) (_ : St) : R1 := none
def oBin (g : YB) (x y : YE) (T : Tab) (st : St) : R1 := g.f T st.fa (x.f st) (y.f st)
def oNil (x : YE) (T : Tab) (st : St) : R1 := onPtr (x.f st) fun i o => some (T, .w (.one (.ptr i o)))
def oFieldAddr (off : Nat) (x : YE) (T : Tab) (st : St) : R1 := onPtr (x.f st) fun i o => some (T, .w (.one (.ptr i (Nat.add o off))))
def oUn (op : UnOp) (x : YE) (T : Tab) (st : St) : R1 := resT (unS T op (x.f st))
def oConv (d : TD) (x : YE) (T : Tab) (st : St) : R1 := resT (convS T d (x.f st))
def oIxArr (len s : Nat) (x i : YE) (T : Tab) (st : St) : R1 :=
 onNat (i.f st) fun n => onPtr (x.f st) fun b o => whenB (Nat.blt n len) (some (T, .w (.one (.ptr b (Nat.add o (Nat.mul n s))))))
def oIxSlc (s : Nat) (x i : YE) (T : Tab) (st : St) : R1 :=
 onNat (i.f st) fun n => onC (x.f st) fun c => match c with
  | .slc b o len _ => whenB (Nat.blt n len) (some (T, .w (.one (.ptr b (Nat.add o (Nat.mul n s))))))
  | .own b len => whenB (Nat.blt n len) (some (T, .w (.one (.ptr b (Nat.add 0 (Nat.mul n s))))))
  | _ => none
def partY (agg : Bool) (size : Nat) (T : Tab) (l : List SC) (o : Nat) : R1 :=
 Bool.rec (motive := fun _ => R1)
  (Option.rec (motive := fun _ => R1) none (fun c => some (T, .w (.one c))) (nthC l o))
  (Option.rec (motive := fun _ => R1) none (fun m => some (T, .w (.agg m))) (cut l o size)) agg
def partM (agg : Bool) (size : Nat) (T : Tab) (l : List SC) (o : Nat) : R1 :=
 Bool.rec (motive := fun _ => R1) (partY agg size T l o) none (isMany l)
def oLoad (agg : Bool) (size : Nat) (x : YE) (T : Tab) (st : St) : R1 :=
 onPtr (x.f st) fun i o => Option.rec (motive := fun _ => R1) none (fun b => partM agg size T b.cells o) (st.bs.get i)
def onAgg (s : SV) (k : List SC → R1) : R1 := SV.rec (motive := fun _ => R1) none (fun w => SW.rec (motive := fun _ => R1) (fun _ => none) k w) (fun _ => none) s
def oField (agg : Bool) (size off : Nat) (x : YE) (T : Tab) (st : St) : R1 := onAgg (x.f st) fun l => partY agg size T l off
def oIndex (len s : Nat) (agg : Bool) (size : Nat) (x i : YE) (T : Tab) (st : St) : R1 :=
 onNat (i.f st) fun n => onAgg (x.f st) fun l => whenB (Nat.blt n len) (partY agg size T l (Nat.mul n s))
def oExtract (i : Nat) (x : YE) (T : Tab) (st : St) : R1 :=
 match x.f st with
 | .tup l => match l[i]? with
  | some w => some (T, .w w)
  | none => none
 | _ => none
def onB (e : Option YE) (d : Nat) (st : St) (k : Nat → R1) : R1 :=
 match e with
 | none => k d
 | some e => onNat (e.f st) k
def slcAt (T : Tab) (b o s n h l : Nat) : R1 :=
 whenB (Nat.ble h n) (whenB (Nat.ble l h) (some (T, .w (.one (.slc b (Bool.rec (motive := fun _ => Nat) (Nat.add o (Nat.mul l s)) o (Nat.beq n l)) (Nat.sub h l) (Nat.sub n l))))))
def oSliceArr (n s : Nat) (x : YE) (lo hi : Option YE) (T : Tab) (st : St) : R1 :=
 onPtr (x.f st) fun b o => onB hi n st fun h => onB lo 0 st fun l => slcAt T b o s n h l
def oSliceSlc (s : Nat) (x : YE) (lo hi : Option YE) (T : Tab) (st : St) : R1 :=
 onC (x.f st) fun c => match c with
  | .slc b o len cap => onB hi len st fun h => onB lo 0 st fun l => slcAt T b o s cap h l
  | _ => none
def oLen (x : YE) (T : Tab) (st : St) : R1 :=
 onC (x.f st) fun c => match c with
  | .slc _ _ len _ => some (T, .w (.one (.int .i64 (.lit (Int.ofNat len)))))
  | .own _ len => some (T, .w (.one (.int .i64 (.lit (Int.ofNat len)))))
  | _ => none
def yEO : Option Operand → Option YE
 | none => none
 | some x => some (yE x)
def yO1 (Γ : Ctx) (o : Oper) : YO :=
 match o.op with
 | .move x => ⟨oMove (yE x)⟩
 | .assign x => ⟨oMove (yE x)⟩
 | .nilCheck x => ⟨oNil (yE x)⟩
 | .binOp op t x y _ =>
  match Γ.ty.get t with
  | some i => ⟨oBin (yB op i.d) (yE x) (yE y)⟩
  | none => ⟨oNone⟩
 | .unOp op _ x => ⟨oUn op (yE x)⟩
 | .convert src dst x =>
  match Γ.ty.get src, Γ.ty.get dst with
  | some _, some i => ⟨oConv i.d (yE x)⟩
  | _, _ => ⟨oNone⟩
 | .load t x =>
  match Γ.ty.get t with
  | some i => ⟨oLoad i.agg i.size (yE x)⟩
  | none => ⟨fun T st => pure1S Γ T st o⟩
 | .fieldAddr t x f =>
  match Γ.ty.get t with
  | some i =>
   match i.d with
   | .struct fs =>
    match fs[f]? with
    | some (off, ft) =>
     match sizeT Γ ft with
     | some (_ + 1) => ⟨oFieldAddr off (yE x)⟩
     | _ => ⟨fun T st => pure1S Γ T st o⟩
    | none => ⟨fun T st => pure1S Γ T st o⟩
   | _ => ⟨fun T st => pure1S Γ T st o⟩
  | none => ⟨oNone⟩
 | .field t x f =>
  match Γ.ty.get t with
  | some i =>
   match i.d with
   | .struct fs =>
    match fs[f]? with
    | some (off, ft) =>
     match Γ.ty.get ft with
     | some j => ⟨oField j.agg j.size off (yE x)⟩
     | none => ⟨fun T st => pure1S Γ T st o⟩
    | none => ⟨fun T st => pure1S Γ T st o⟩
   | _ => ⟨fun T st => pure1S Γ T st o⟩
  | none => ⟨oNone⟩
 | .indexAddr t x ix =>
  match Γ.ty.get t with
  | some i =>
   match i.d with
   | .arr len e =>
    match sizeT Γ e with
    | some s => ⟨oIxArr len s (yE x) (yE ix)⟩
    | none => ⟨fun T st => pure1S Γ T st o⟩
   | .slice e =>
    match sizeT Γ e with
    | some s => ⟨oIxSlc s (yE x) (yE ix)⟩
    | none => ⟨fun T st => pure1S Γ T st o⟩
   | _ => ⟨fun T st => pure1S Γ T st o⟩
  | none => ⟨fun T st => pure1S Γ T st o⟩
 | .index t x ix =>
  match Γ.ty.get t with
  | some i =>
   match i.d with
   | .arr len e =>
    match Γ.ty.get e with
    | some j => ⟨oIndex len j.size j.agg j.size (yE x) (yE ix)⟩
    | none => ⟨fun T st => pure1S Γ T st o⟩
   | _ => ⟨fun T st => pure1S Γ T st o⟩
  | none => ⟨fun T st => pure1S Γ T st o⟩
 | .slice t x lo hi none =>
  match Γ.ty.get t with
  | some i =>
   match i.d with
   | .arr n e =>
    match sizeT Γ e with
    | some s => ⟨oSliceArr n s (yE x) (yEO lo) (yEO hi)⟩
    | none => ⟨fun T st => pure1S Γ T st o⟩
   | .slice e =>
    match sizeT Γ e with
    | some s => ⟨oSliceSlc s (yE x) (yEO lo) (yEO hi)⟩
    | none => ⟨fun T st => pure1S Γ T st o⟩
   | _ => ⟨fun T st => pure1S Γ T st o⟩
  | none => ⟨fun T st => pure1S Γ T st o⟩
 | .extract x i => ⟨oExtract i (yE x)⟩
 | _ => ⟨fun T st => pure1S Γ T st o⟩
theorem partOf_eq {Γ : Ctx} {t : Nat} {i : TI} (hi : Γ.ty.get t = some i) (T : Tab) (l : List SC) (o : Nat) : partY i.agg i.size T l o = resV T (partOf Γ t l o) := by
 unfold partOf partY
 rw [hi]
 dsimp only
 cases i.agg with
 | true =>
  dsimp only
  cases cut l o i.size <;> rfl
 | false =>
  dsimp only
  rw [nthC_eq]
  cases l[o]? <;> rfl
theorem onB_eq (st : St) (o : Option Operand) (d : Nat) (k : Nat → R1) : onB (yEO o) d st k = (match boundS st d o with | some n => k n | none => none) := by
 cases o with
 | none => rfl
 | some x =>
  show onNat ((yE x).f st) k = _
  rw [onNat_eq, yE_eq]; rfl
theorem slcAt_eq (T : Tab) (b o s n h l : Nat) : slcAt T b o s n h l = resC T (match Nat.ble h n, Nat.ble l h, Nat.beq n l with
  | true, true, false => some (.slc b (o + l * s) (h - l) (n - l))
  | true, true, true => some (.slc b o (h - l) (n - l))
  | _, _, _ => none) := by
 unfold slcAt
 cases Nat.ble h n <;> cases Nat.ble l h <;> cases Nat.beq n l <;> rfl
theorem nilY (T : Tab) (s : SV) : onPtr s (fun i o => some (T, .w (.one (.ptr i o)))) = (match s with | .w (.one (.ptr i o)) => resC T (some (.ptr i o)) | _ => none) := by
 cases s with
 | w a => cases a with
  | one c => cases c <;> rfl
  | agg l => rfl
 | _ => rfl
theorem yO1_eq (Γ : Ctx) (o : Oper) (T : Tab) (st : St) : (yO1 Γ o).f T st = pure1S Γ T st o := by
 have hR : ∀ (r : Option SC), resC T r = (match r with | some x => some (T, .w (.one x)) | none => none) := fun r => by cases r <;> rfl
 unfold yO1
 split
 · rename_i x ho
   show some (T, (yE x).f st) = _
   unfold pure1S; rw [ho, yE_eq]
 · rename_i x ho
   show some (T, (yE x).f st) = _
   unfold pure1S; rw [ho, yE_eq]
 · rename_i x ho
   show onPtr ((yE x).f st) (fun i o => some (T, .w (.one (.ptr i o)))) = _
   unfold pure1S; rw [ho, yE_eq]
   exact nilY T (st.eval x)
 · rename_i op t x y ty ho
   unfold pure1S; rw [ho]
   dsimp only
   split
   · rename_i i hi
     show (yB op i.d).f T st.fa ((yE x).f st) ((yE y).f st) = _
     rw [yB_eq, yE_eq, yE_eq]; rw [hi]
   · rename_i hi
     rw [hi]; rfl
 · rename_i op t x ho
   unfold pure1S; rw [ho]
   show resT (unS T op ((yE x).f st)) = _
   rw [yE_eq]
 · rename_i src dst x ho
   unfold pure1S; rw [ho]
   dsimp only
   split
   · rename_i i j hi hj
     show resT (convS T _ ((yE x).f st)) = _
     rw [yE_eq, hi, hj]
   · rename_i hno
     show none = _
     cases hi : Γ.ty.get src with
     | none => rfl
     | some i => cases hj : Γ.ty.get dst with
      | none => rfl
      | some j => exact absurd hj (hno i j hi)
 · rename_i t x ho
   split
   · rename_i i hi
     unfold pure1S; rw [ho]
     show onPtr ((yE x).f st) _ = resV T (loadS Γ st t (st.eval x))
     rw [yE_eq]
     unfold loadS
     generalize st.eval x = v
     cases v with
     | w a => cases a with
      | one c => cases c with
       | ptr b o' =>
        show (Option.rec none (fun b => partM i.agg i.size T b.cells o') (st.bs.get b) : R1) = _
        dsimp only
        cases hb : st.bs.get b with
        | none => rfl
        | some B =>
         show partM i.agg i.size T B.cells o' = _
         unfold partM
         dsimp only
         cases isMany B.cells with
         | true => rfl
         | false => exact partOf_eq hi T B.cells o'
       | _ => rfl
      | agg l => rfl
     | _ => rfl
   · rfl
 · rename_i t x f ho
   split
   · rename_i i hi
     split
     · rename_i fs hd
       split
       · rename_i off ft hf
         split
         · rename_i m hs
           unfold pure1S; rw [ho]
           show onPtr ((yE x).f st) _ = resC T (fieldAddrS Γ t (st.eval x) f)
           rw [yE_eq, onPtr_eq]
           unfold fieldAddrS
           rw [hi]
           dsimp only
           rw [hd]
           cases hx : st.eval x with
           | w a => cases a with
            | one c => cases c with
             | ptr b o' => dsimp only; rw [hf]; dsimp only; rw [hs]; rfl
             | _ => rfl
            | agg l => rfl
           | _ => rfl
         · rfl
       · rfl
     · rfl
   · rename_i hi
     unfold pure1S; rw [ho]
     show none = resC T (fieldAddrS Γ t (st.eval x) f)
     unfold fieldAddrS
     rw [hi]; rfl
 · rename_i t x f ho
   split
   · rename_i i hi
     split
     · rename_i fs hd
       split
       · rename_i off ft hf
         split
         · rename_i j hj
           unfold pure1S; rw [ho]
           show onAgg ((yE x).f st) _ = resV T (fieldS Γ t (st.eval x) f)
           rw [yE_eq]
           unfold fieldS
           rw [hi]
           dsimp only
           rw [hd]
           cases hx : st.eval x with
           | w a => cases a with
            | one c => rfl
            | agg l => dsimp only; rw [hf]; exact partOf_eq hj T l off
           | _ => rfl
         · rfl
       · rfl
     · rfl
   · rename_i hi
     unfold pure1S; rw [ho]
     show none = resV T (fieldS Γ t (st.eval x) f)
     unfold fieldS
     rw [hi]; rfl
 · rename_i t x ix ho
   split
   · rename_i i hi
     split
     · rename_i len e hd
       split
       · rename_i s hs
         unfold pure1S; rw [ho]
         show onNat ((yE ix).f st) _ = resC T (indexAddrS Γ t (st.eval x) (st.eval ix))
         rw [onNat_eq, yE_eq, yE_eq]
         unfold indexAddrS
         rw [hi]
         cases natOf (st.eval ix) with
         | none => rfl
         | some n =>
          dsimp only
          rw [hd]
          cases hx : st.eval x with
          | w a => cases a with
           | one c => cases c with
            | ptr b o' =>
             show whenB (Nat.blt n len) _ = _
             dsimp only
             rw [hs]
             cases Nat.blt n len <;> rfl
            | _ => rfl
           | agg l => rfl
          | _ => rfl
       · rfl
     · rename_i e hd
       split
       · rename_i s hs
         unfold pure1S; rw [ho]
         show onNat ((yE ix).f st) _ = resC T (indexAddrS Γ t (st.eval x) (st.eval ix))
         rw [onNat_eq, yE_eq, yE_eq]
         unfold indexAddrS
         rw [hi]
         cases natOf (st.eval ix) with
         | none => rfl
         | some n =>
          dsimp only
          rw [hd]
          cases hx : st.eval x with
          | w a => cases a with
           | one c => cases c with
            | slc b o' len cap =>
             show whenB (Nat.blt n len) _ = _
             dsimp only
             rw [hs]
             cases Nat.blt n len <;> rfl
            | own b len =>
             show whenB (Nat.blt n len) _ = _
             dsimp only
             rw [hs]
             cases Nat.blt n len <;> rfl
            | _ => rfl
           | agg l => rfl
          | _ => rfl
       · rfl
     · rfl
   · rfl
 · rename_i t x ix ho
   split
   · rename_i i hi
     split
     · rename_i len e hd
       split
       · rename_i j hj
         unfold pure1S; rw [ho]
         show onNat ((yE ix).f st) _ = resV T (indexS Γ t (st.eval x) (st.eval ix))
         rw [onNat_eq, yE_eq, yE_eq]
         unfold indexS
         rw [hi]
         have hs : sizeT Γ e = some j.size := by unfold sizeT; rw [hj]
         cases natOf (st.eval ix) with
         | none => rfl
         | some n =>
          dsimp only
          rw [hd]
          cases hx : st.eval x with
          | w a => cases a with
           | one c => rfl
           | agg l =>
            show whenB (Nat.blt n len) (partY j.agg j.size T l (Nat.mul n j.size)) = _
            rw [partOf_eq hj]
            dsimp only
            rw [hs]
            cases Nat.blt n len <;> rfl
          | _ => rfl
       · rfl
     · rfl
   · rfl
 · rename_i t x lo hi' ho
   split
   · rename_i i hi
     split
     · rename_i n e hd
       split
       · rename_i s hs
         unfold pure1S; rw [ho]
         show onPtr ((yE x).f st) _ = resC T (sliceS Γ st t (st.eval x) lo hi')
         rw [onPtr_eq, yE_eq]
         unfold sliceS
         rw [hi]
         dsimp only
         rw [hd]
         cases hx : st.eval x with
         | w a => cases a with
          | one c => cases c with
           | ptr b o' =>
            dsimp only
            rw [onB_eq]
            cases boundS st n hi' with
            | none => rfl
            | some h =>
             dsimp only
             rw [onB_eq]
             cases boundS st 0 lo with
             | none => rfl
             | some l =>
              dsimp only
              rw [hs, slcAt_eq]; first | rfl | done
           | _ => rfl
          | agg l => rfl
         | _ => rfl
       · rfl
     · rename_i e hd
       split
       · rename_i s hs
         unfold pure1S; rw [ho]
         show onC ((yE x).f st) _ = resC T (sliceS Γ st t (st.eval x) lo hi')
         rw [yE_eq]
         unfold sliceS
         rw [hi]
         dsimp only
         rw [hd]
         cases hx : st.eval x with
         | w a => cases a with
          | one c => cases c with
           | slc b o' len cap =>
            show onB (yEO hi') len st (fun h => onB (yEO lo) 0 st fun l => slcAt T b o' s cap h l) = _
            dsimp only
            rw [onB_eq]
            cases boundS st len hi' with
            | none => rfl
            | some h =>
             dsimp only
             rw [onB_eq]
             cases boundS st 0 lo with
             | none => rfl
             | some l =>
              dsimp only
              rw [hs, slcAt_eq]; first | rfl | done
           | _ => rfl
          | agg l => rfl
         | _ => rfl
       · rfl
     · rfl
   · rfl
 · rename_i x i ho
   unfold pure1S; rw [ho]
   show oExtract i (yE x) T st = _
   unfold oExtract
   rw [yE_eq]
   dsimp only
   generalize st.eval x = v
   cases v with
   | tup l => dsimp only; cases l[i]? <;> rfl
   | _ => rfl
 · rfl
def hasB (o : Op) : Bool :=
 match o with
 | .binOp .quo _ _ _ _ => true
 | .binOp .rem _ _ _ _ => true
 | .binOp .shr _ _ _ _ => true
 | .binOp .eql _ _ _ _ => true
 | .binOp .neq _ _ _ _ => true
 | .binOp .and _ _ _ _ => true
 | .binOp .andNot _ _ _ _ => true
 | .binOp .or _ _ _ _ => true
 | .binOp .xor _ _ _ _ => true
 | .binOp .shl _ _ _ _ => true
 | .binOp _ _ _ _ _ => false
 | .convert _ _ _ => true
 | .call { callee := .builtin _, args := _, argTypes := _ } => true
 | _ => false
def orB (Γ : Ctx) (k : YO) (o : Oper) (T : Tab) (st : St) : R1 := Option.rec (motive := fun _ => R1) (pureB Γ T st o) (fun r => some r) (k.f T st)
def yO (Γ : Ctx) (o : Oper) : YO :=
 match hasB o.op with
 | true => ⟨orB Γ (yO1 Γ o) o⟩
 | false => yO1 Γ o
theorem intB_none {T : Tab} {fa : Tr Bool} {op : BinOp} (h : hasB (.binOp op 0 (.tmp 0) (.tmp 0) 0) = false) (x y : SV) : intB T fa op x y = none := by
 unfold intB
 split <;> cases op <;> first | rfl | (cases h; done) | skip
theorem pureB_none {Γ : Ctx} {o : Oper} (h : hasB o.op = false) (T : Tab) (st : St) : pureB Γ T st o = none := by
 unfold pureB
 split
 · rename_i op t x y yt ho
   rw [ho] at h
   rw [intB_none (by cases op <;> first | rfl | cases h)]
   rfl
 · rename_i ho; rw [ho] at h; cases h
 · rename_i ho; rw [ho] at h; cases h
 · rfl
theorem yO_eq (Γ : Ctx) (o : Oper) (T : Tab) (st : St) : (yO Γ o).f T st = pureS Γ T st o := by
 unfold yO pureS
 split
 · show (Option.rec (pureB Γ T st o) (fun r => some r) ((yO1 Γ o).f T st) : R1) = _
   rw [yO1_eq]
   cases pure1S Γ T st o <;> rfl
 · rename_i hb
   rw [yO1_eq]
   cases hp : pure1S Γ T st o with
   | some r => rfl
   | none => exact (pureB_none hb T st).symm
end
end Go.Sx

namespace Go.Sx
noncomputable section
structure YM where
 f : Tab → St → Option (Tab × St × SV)
structure YC where
 f : Tab → St → Option (Tab × Tree)
abbrev RT := Option (Tab × Tree)
/-! ### Operations that turn memory -/
def mGen (Γ : Ctx) (o : Oper) (T : Tab) (st : St) : Option (Tab × St × SV) :=
 match memS Γ st o with
 | some (st, v) => some (T, st, v)
 | none => none
def yM (Γ : Ctx) (o : Oper) : YM := ⟨mGen Γ o⟩
/-! ### One operation after the other -/
def bindP (r : Option St) (k : St → RT) : RT := Option.rec (motive := fun _ => RT) none k r
def bindR (r : R1) (k : Tab → SV → RT) : RT := Option.rec (motive := fun _ => RT) none (fun p => Prod.rec (motive := fun _ => RT) k p) r
def bindM (r : Option (Tab × St × SV)) (k : Tab → St → SV → RT) : RT :=
 Option.rec (motive := fun _ => RT) none (fun p => Prod.rec (motive := fun _ => RT) (fun T q => Prod.rec (motive := fun _ => RT) (k T) q) p) r
def thenP (p : YP) (k : YC) (T : Tab) (st : St) (v : SV) : RT := bindP (p.f v st) (k.f T)
def sPure (o : YO) (p : YP) (k : YC) (T : Tab) (st : St) : RT := bindR (o.f T st) fun T1 v => thenP p k T1 st v
def sMem (m : YM) (p : YP) (k : YC) (T : Tab) (st : St) : RT := bindM (m.f T st) fun T1 st1 v => thenP p k T1 st1 v
def argsY : List YE → St → List SV
 | [], _ => []
 | e :: l, st => e.f st :: argsY l st
theorem argsY_eq (l : List Operand) (st : St) : argsY (l.map yE) st = l.map st.eval := by
 induction l with
 | nil => rfl
 | cons x l ih => simp only [List.map, argsY, yE_eq, ih]
section
variable (Γ : Ctx) (rec : Code → YC)
def cSumm (s : Summ) (es : List YE) (p : YP) (k : YC) (B : YC) (T : Tab) (st : St) : RT :=
 match s T st (argsY es st) with
 | some (T1, vt) => onVT vt (thenP p k) T1 st
 | none => B.f T st
def enterY (n : Nat) (args : List SV) (F : Func) (st : St) : St :=
 match st with
 | ⟨_, _, nb, bs, fa⟩ => ⟨args.length + (F.ntmps - args.length), frameOf 0 args, nb, bs, fa⟩
def cOpen (F : Func) (b : YC) (p : YP) (k : YC) (T : Tab) (st : St) (args : List SV) : RT :=
 match b.f T (match st with | ⟨_, _, nb, bs, fa⟩ => ⟨args.length + (F.ntmps - args.length), frameOf 0 args, nb, bs, fa⟩) with
 | some (T1, t) =>
  t.bind (fun T e s =>
   match e with
   | .leave _ => none
   | _ =>
    match resultsS Γ s F.results.toList with
    | some v => thenP p k T (match s, st with | ⟨_, _, nb, bs, fa⟩, ⟨nt, fr, _, _, _⟩ => ⟨nt, fr, nb, bs, fa⟩) v
    | none => none) T1
 | none => none
def cShut (F : Func) (b : YC) (p : YP) (k : YC) (T : Tab) (st : St) (args : List SV) : RT :=
 match b.f T ⟨args.length + (F.ntmps - args.length), frameOf 0 args, 0, .nil, st.fa⟩ with
 | some (T1, t) =>
  match vtree T1 (leafRes Γ F) t with
  | some vt => onVals vt (thenP p k) T1 st
  | none => none
 | none => none
def cBody2 (F : Func) (b : YC) (flat : Bool) (p : YP) (k : YC) (T : Tab) (st : St) (args : List SV) : RT :=
 match noPtrs args && flat with
 | true => cShut Γ F b p k T st args
 | false => cOpen Γ F b p k T st args
def cBody (F : Func) (b : YC) (flat : Bool) (es : List YE) (p : YP) (k : YC) (T : Tab) (st : St) : RT := cBody2 Γ F b flat p k T st (argsY es st)
def yBody (g : Nat) (es : List YE) (p : YP) (k : YC) : YC :=
 match Γ.fns.get g with
 | some F =>
  match F.body with
  | some code => ⟨cBody Γ F (rec code) (flatL Γ F.resultTypes.toList) es p k⟩
  | none => ⟨fun _ _ => none⟩
 | none => ⟨fun _ _ => none⟩
def yCall (g : Nat) (es : List YE) (p : YP) (k : YC) : YC :=
 match Γ.summ g with
 | some s => ⟨cSumm s es p k (yBody Γ rec g es p k)⟩
 | none => yBody Γ rec g es p k
def kindO (o : Op) : Nat :=
 match o with
 | .alloc _ | .box _ _ | .buildSlice _ _ _ | .store _ _ _ => 1
 | .call { callee := .builtin .append, args := _, argTypes := _ } => 1
 | .move _ | .assign _ | .pick _ _ _ | .build _ _ | .load _ _ | .nilCheck _ | .binOp _ _ _ _ _ | .unOp _ _ _ | .convert _ _ _ | .sliceToArrayPointer _ _
 | .slice _ _ _ _ _ | .fieldAddr _ _ _ | .field _ _ _ | .indexAddr _ _ _ | .index _ _ _ | .extract _ _ => 0
 | .call { callee := .builtin .len, args := _, argTypes := _ } => 0
 | .call { callee := .builtin .min, args := _, argTypes := _ } => 0
 | .call { callee := .builtin .max, args := _, argTypes := _ } => 0
 | _ => 2
def runY (o : Oper) (p : YP) (k : YC) (T : Tab) (st : St) : RT := runS Γ (fun c => (rec c).f) o (thenP p k) T st
def guardY (ops : Array Oper) (o : Oper) (p : YP) (k : YC) (T : Tab) (st : St) : RT := guardedS Γ (fun c => (rec c).f) ops o (thenP p k) T st
def yStep (ops : Array Oper) (o : Oper) (k : YC) : YC :=
 match o.guard with
 | some _ => ⟨guardY Γ rec ops o (yP o.dst) k⟩
 | none =>
  match kindO o.op with
  | 0 => ⟨sPure (yO Γ o) (yP o.dst) k⟩
  | 1 => ⟨sMem (yM Γ o) (yP o.dst) k⟩
  | _ =>
   match o.op with
   | .call c =>
    match c.callee with
    | .value (.func g) => yCall Γ rec g (c.args.toList.map yE) (yP o.dst) k
    | _ => ⟨runY Γ rec o (yP o.dst) k⟩
   | _ => ⟨runY Γ rec o (yP o.dst) k⟩
def endY (T : Tab) (st : St) : RT := some (T, .leaf .normal st)
def yOps (ops : Array Oper) : List Oper → YC
 | [] => ⟨endY⟩
 | o :: l => yStep Γ rec ops o (yOps ops l)
/-! ### Regions that draw their order -/
abbrev RD := Option (Tab × SV × Option (Nat × Blk) × Fp × Nat)
structure YD where
 f : Tab → St → Nat → St → Nat → RD
structure YA where
 f : SV → Tr SV → Tr SV
structure YW where
 f : Tab → St → Tr Bool → Nat → List SV → Option (Tab × VT × Bool)
structure YL where
 f : St → Nat → Tab → St → Nat → (Tab → St → List (Dl × Fp) → RT) → RT
def noMem (st0 : St) (nbA : Nat) (st : St) : St := match st0, st with | ⟨nt, _, _, _, _⟩, ⟨_, fr, _, _, fa⟩ => ⟨nt, fr, nbA, .nil, fa⟩
def dPure (o : YO) (sl : List Nat) (T : Tab) (st0 : St) (nbA : Nat) (st : St) (nid : Nat) : RD :=
 Option.rec (motive := fun _ => RD) none (fun p => Prod.rec (motive := fun _ => RD) (fun T1 v => some (T1, v, none, ⟨sl, [], false, false⟩, nid)) p) (o.f T (noMem st0 nbA st))
def dLoadB (agg : Bool) (size : Nat) (sl : List Nat) (T : Tab) (st : St) (nid b q : Nat) : RD :=
 Option.rec (motive := fun _ => RD) none (fun B => Option.rec (motive := fun _ => RD) none (fun p => Prod.rec (motive := fun _ => RD) (fun T1 v => some (T1, v, none, ⟨sl, [b], false, false⟩, nid)) p) (partM agg size T B.cells q)) (st.bs.get b)
def dLoad (agg : Bool) (size : Nat) (sl : List Nat) (x : YE) (T : Tab) (_ : St) (_ : Nat) (st : St) (nid : Nat) : RD :=
 match x.f st with
 | .w (.one (.ptr b q)) => dLoadB agg size sl T st nid b q
 | _ => none
def dAlloc (z : List SC) (t : Nat) (sl : List Nat) (T : Tab) (_ : St) (nbA : Nat) (_ : St) (nid : Nat) : RD :=
 Bool.rec (motive := fun _ => RD) none (some (T, .w (.one (.ptr nid 0)), some (nid, ⟨z, t⟩), ⟨sl, [], false, true⟩, Nat.succ nid)) (Nat.blt nid nbA)
def kindD (o : Op) : Nat :=
 match o with
 | .alloc _ | .store _ _ _ | .load _ _ | .call _ => 1
 | _ => 0
def yD (o : Oper) : YD :=
 match kindD o.op with
 | 0 => ⟨dPure (yO Γ o) (slotsOf o)⟩
 | _ =>
  match o.op with
  | .alloc t =>
   match Γ.ty.get t with
   | some i => ⟨dAlloc i.zero t (slotsOf o)⟩
   | none => ⟨fun T st0 nbA st nid => drawOp Γ T st0 nbA st nid o⟩
  | .load t x =>
   match Γ.ty.get t with
   | some i => ⟨dLoad i.agg i.size (slotsOf o) (yE x)⟩
   | none => ⟨fun T st0 nbA st nid => drawOp Γ T st0 nbA st nid o⟩
  | _ => ⟨fun T st0 nbA st nid => drawOp Γ T st0 nbA st nid o⟩
def yA : Option Nat → YA
 | none => ⟨fun _ fr => fr⟩
 | some t => ⟨(yS fuelT (Nat.succ t)).f⟩
def putBlk (blk : Option (Nat × Blk)) (bs : Tr Blk) : Tr Blk := Option.rec (motive := fun _ => Tr Blk) bs (fun p => Prod.rec (motive := fun _ => Tr Blk) (fun i b => bs.set fuelT i b) p) blk
def appY (A : YA) (v : SV) (blk : Option (Nat × Blk)) (st : St) : St := match st with | ⟨nt, fr, nb, bs, fa⟩ => ⟨nt, A.f v fr, nb, putBlk blk bs, fa⟩
def dStep (D : YD) (A : YA) (k : Nat) (d : Option Nat) (K : YL) (st0 : St) (nbA : Nat) (T : Tab) (st : St) (nid : Nat) (fin : Tab → St → List (Dl × Fp) → RT) : RT :=
 Bool.rec (motive := fun _ => RT) none (match D.f T st0 nbA st nid with
  | some (T1, v, blk, fp, nid') => Bool.rec (motive := fun _ => RT) none (K.f st0 nbA T1 (appY A v blk st) nid' fun T st l => fin T st ((⟨k, d, v, blk⟩, fp) :: l)) (blkLow blk)
  | none => none) (dstLow st0.nt d)
def wSumm (s : Summ) (W : YW) (T : Tab) (st0 : St) (fa : Tr Bool) (nbA : Nat) (args : List SV) : Option (Tab × VT × Bool) :=
 match s T (summSt st0 nbA fa (noPtrs args)) args with
 | some (T1, vt) => some (T1, vt, !(noPtrs args))
 | none => W.f T st0 fa nbA args
def wShut (F : Func) (b : YC) (T : Tab) (fa : Tr Bool) (args : List SV) : Option (Tab × VT × Bool) :=
 match b.f T ⟨args.length + (F.ntmps - args.length), frameOf 0 args, 0, .nil, fa⟩ with
 | some (T1, t) =>
  match vtree T1 (leafRes Γ F) t with
  | some vt => some (T1, vt, false)
  | none => none
 | none => none
def wOpen (F : Func) (b : YC) (T : Tab) (st0 : St) (fa : Tr Bool) (nbA : Nat) (args : List SV) : Option (Tab × VT × Bool) :=
 match b.f T ⟨args.length + (F.ntmps - args.length), frameOf 0 args, nbA, st0.bs, fa⟩ with
 | some (T1, t) =>
  match vtree T1 (leafResM Γ F st0.bs) t with
  | some vt => some (T1, vt, true)
  | none => none
 | none => none
def wBody (F : Func) (b : YC) (T : Tab) (st0 : St) (fa : Tr Bool) (nbA : Nat) (args : List SV) : Option (Tab × VT × Bool) :=
 match noPtrs args with
 | true => wShut Γ F b T fa args
 | false => wOpen Γ F b T st0 fa nbA args
def yWB (g : Nat) : YW :=
 match Γ.fns.get g with
 | some F =>
  match F.body with
  | some code => ⟨wBody Γ F (rec code)⟩
  | none => ⟨fun _ _ _ _ _ => none⟩
 | none => ⟨fun _ _ _ _ _ => none⟩
def yW (g : Nat) : YW :=
 match Γ.summ g with
 | some s => ⟨wSumm s (yWB Γ rec g)⟩
 | none => yWB Γ rec g
def dCall (W : YW) (es : List YE) (sl : List Nat) (A : YA) (k : Nat) (d : Option Nat) (K : YL) (st0 : St) (nbA : Nat) (T : Tab) (st : St) (nid : Nat) (fin : Tab → St → List (Dl × Fp) → RT) : RT :=
 Bool.rec (motive := fun _ => RT) none (match W.f T st0 st.fa nbA (argsY es st) with
  | some (T1, vt, opn) => onVals vt (fun T st v => K.f st0 nbA T (appY A v none st) nid fun T st l => fin T st ((⟨k, d, v, none⟩, ⟨sl, [], opn, false⟩) :: l)) T1 st
  | none => none) (dstLow st0.nt d)
def dEnd (_ : St) (_ : Nat) (T : Tab) (st : St) (_ : Nat) (fin : Tab → St → List (Dl × Fp) → RT) : RT := fin T st []
def dNone (_ : St) (_ : Nat) (_ : Tab) (_ : St) (_ : Nat) (_ : Tab → St → List (Dl × Fp) → RT) : RT := none
def isCall : Op → Bool
 | .call _ => true
 | _ => false
def yDraw : List Oper → Nat → YL
 | [], _ => ⟨dEnd⟩
 | o :: rest, k =>
  match o.guard, lowEdges k o.after.toList with
  | none, true =>
   match isCall o.op with
   | false => ⟨dStep (yD Γ o) (yA o.dst) k o.dst (yDraw rest (k + 1))⟩
   | true =>
    match o.op with
    | .call c =>
     match c.callee with
     | .value (.func g) => ⟨dCall (yW Γ rec g) (c.args.toList.map yE) (slotsOf o) (yA o.dst) k o.dst (yDraw rest (k + 1))⟩
     | _ => ⟨fun st0 nbA T st nid fin => drawL Γ (fun c => (rec c).f) st0 nbA (o :: rest) k T st nid fin⟩
    | _ => ⟨dNone⟩
  | _, _ => ⟨dNone⟩
def dFin (ops : List Oper) (T : Tab) (st' : St) (l : List (Dl × Fp)) : RT := Bool.rec (motive := fun _ => RT) none (some (T, .leaf .normal st')) (clear2 ops l)
def cDraw (small : Bool) (n : Nat) (D : YL) (ops : List Oper) (T : Tab) (st : St) : RT :=
 match Nat.blt (Nat.add st.nb n) maxReg, small with
 | true, true => D.f st (Nat.add st.nb n) T (match st with | ⟨nt, fr, nb, bs, fa⟩ => ⟨nt, fr, Nat.add nb n, bs, fa⟩) st.nb (dFin ops)
 | _, _ => none
def yDrawS (ops : Array Oper) : YC := ⟨cDraw (Nat.blt ops.size 5000) (countAllocs ops.toList) (yDraw Γ rec ops.toList 0) ops.toList⟩
/-! ### Code -/
def bindY (t : Tree) (g : Tab → Ex → St → RT) (T : Tab) : RT :=
 Tree.rec (motive := fun _ => Tab → RT) (fun e st T => g T e st)
  (fun r _ _ iht ihf T => Option.rec (motive := fun _ => RT) none (fun p => Prod.rec (motive := fun _ => RT) (fun T1 t' =>
   Option.rec (motive := fun _ => RT) none (fun q => Prod.rec (motive := fun _ => RT) (fun T2 f' => some (T2, .node r t' f')) q) (ihf T1)) p) (iht T)) t T
def bindT (r : RT) (k : Tab → Tree → RT) : RT := Option.rec (motive := fun _ => RT) none (fun p => Prod.rec (motive := fun _ => RT) k p) r
def seqG (b : YC) (T : Tab) (e : Ex) (s : St) : RT := Ex.rec (motive := fun _ => RT) (b.f T s) (fun id => some (T, .leaf (.leave id) s)) (some (T, .leaf .ret s)) e
def cSeq (a b : YC) (T : Tab) (st : St) : RT := bindT (a.f T st) fun T1 t => bindY t (seqG b) T1
def onBool (s : SV) (k : X → RT) : RT :=
 match s with
 | .w (.one (.bool x)) => k x
 | _ => none
def condX (a b : YC) (T : Tab) (st : St) (x : X) : RT :=
 X.rec (motive := fun _ => RT) (fun n => Bool.rec (motive := fun _ => RT) (b.f T st) (a.f T st) (isOne n)) (fun r => condS (.reg r) a.f b.f T st) x
def cCond (e : YE) (a b : YC) (T : Tab) (st : St) : RT := onBool (e.f st) (condX a b T st)
def blockG (id : Nat) (T : Tab) (e : Ex) (s : St) : RT :=
 Ex.rec (motive := fun _ => RT) (some (T, .leaf .normal s)) (fun j => Bool.rec (motive := fun _ => RT) (some (T, .leaf (.leave j) s)) (some (T, .leaf .normal s)) (Nat.beq j id)) (some (T, .leaf .ret s)) e
def tidyY (fa : Tr Bool) (r : RT) : RT :=
 bindT r fun T t => Tree.rec (motive := fun _ => RT) (fun e st => some (T, .leaf e st)) (fun _ _ _ _ _ => some (tidy fa t T)) t
def cBlock (id : Nat) (c : YC) (T : Tab) (st : St) : RT := bindT (c.f T st) fun T1 t => tidyY st.fa (bindY t (blockG id) T1)
def loopY (c : YC) : Nat → Tab → St → RT
 | 0, _, _ => none
 | n + 1, T, st => bindT (c.f T st) fun T1 t => bindY t (fun T e s => Ex.rec (motive := fun _ => RT) (loopY c n T s) (fun id => some (T, .leaf (.leave id) s)) (some (T, .leaf .ret s)) e) T1
def cLeaf (e : Ex) (T : Tab) (st : St) : RT := some (T, .leaf e st)
def yCode (c : Code) : YC :=
 match c with
 | .skip => ⟨cLeaf .normal⟩
 | .region _ ops false => ⟨openI (allSlots ops.toList) (yOps Γ rec ops ops.toList).f 2⟩
 | .region _ ops true => ⟨openI (allSlots ops.toList) (yDrawS Γ rec ops).f 2⟩
 | .seq a b => ⟨cSeq (rec a) (rec b)⟩
 | .cond c a b => ⟨cCond (yE c) (rec a) (rec b)⟩
 | .block id c => ⟨cBlock id (rec c)⟩
 | .loop c => ⟨loopY (rec c) 400⟩
 | .exit id => ⟨cLeaf (.leave id)⟩
 | .label _ => ⟨cLeaf .normal⟩
 | .ret => ⟨cLeaf .ret⟩
 | _ => ⟨fun _ _ => none⟩
end
def yExec (Γ : Ctx) (n : Nat) : Code → YC :=
 Nat.rec (motive := fun _ => Code → YC) (fun _ => ⟨fun _ _ => none⟩) (fun _ ih c => yCode Γ ih c) n
/-! ### It is the same -/
theorem bindY_eq (g : Tab → Ex → St → RT) : ∀ (t : Tree) (T : Tab), bindY t g T = t.bind g T
 | .leaf e st, T => rfl
 | .node r t f, T => by
  have h1 := bindY_eq g t
  have h2 := bindY_eq g f
  unfold Tree.bind
  show (Option.rec none (fun p => Prod.rec (fun T1 t' => Option.rec none (fun q => Prod.rec (fun T2 f' => some (T2, Tree.node r t' f')) q) (bindY f g T1)) p) (bindY t g T) : RT) = _
  rw [h1]
  cases t.bind g T with
  | none => rfl
  | some p =>
   obtain ⟨T1, t'⟩ := p
   show (Option.rec none (fun q => Prod.rec (fun T2 f' => some (T2, Tree.node r t' f')) q) (bindY f g T1) : RT) = _
   rw [h2]
   dsimp only
   cases f.bind g T1 <;> rfl
theorem bindT_eq (r : RT) (k : Tab → Tree → RT) : bindT r k = (match r with | some (T, t) => k T t | none => none) := by
 cases r <;> rfl
theorem bindR_eq (r : R1) (k : Tab → SV → RT) : bindR r k = (match r with | some (T, t) => k T t | none => none) := by
 cases r <;> rfl
theorem bindP_eq (r : Option St) (k : St → RT) : bindP r k = (match r with | some t => k t | none => none) := by
 cases r <;> rfl
section
variable {Γ : Ctx} {rec : Code → YC}
theorem memS_none {o : Oper} (h : kindO o.op = 0) (st : St) : memS Γ st o = none := by
 unfold memS
 split <;> first | rfl | (rename_i ho; rw [ho] at h; cases h)
theorem pureS_none {o : Oper} (h : kindO o.op = 1) (T : Tab) (st : St) : pureS Γ T st o = none := by
 have h1 : pure1S Γ T st o = none := by
  unfold pure1S
  split <;> first | rfl | (rename_i ho; rw [ho] at h; cases h; done) | skip
  rename_i b as ts ho
  rw [ho] at h
  cases b <;> first | (cases h; done) | skip
  unfold builtinS
  simp [resT]
 have h2 : pureB Γ T st o = none := by
  unfold pureB
  split <;> first | rfl | (rename_i ho; rw [ho] at h; cases h; done) | skip
  rename_i b as ts ho
  rw [ho] at h
  cases b <;> first | (cases h; done) | skip
  unfold minMaxS
  simp [resT]
 unfold pureS
 rw [h1, h2]
theorem noCall {o : Oper} (h : kindO o.op = 0 ∨ kindO o.op = 1) (st : St) : ∀ c, o.op = .call c → calleeS st c = none := by
 intro c ho
 rw [ho] at h
 unfold calleeS
 obtain ⟨cal, as, ts⟩ := c
 cases cal with
 | value f => rcases h with h | h <;> cases h
 | invoke r m => rcases h with h | h <;> cases h
 | builtin b => rfl
theorem runS_pure {r : Code → Tab → St → RT} {o : Oper} (h : kindO o.op = 0) (fin : Tab → St → SV → RT) (T : Tab) (st : St) :
  runS Γ r o fin T st = (match pureS Γ T st o with | some (T1, v) => fin T1 st v | none => none) := by
 unfold runS opS
 cases hp : pureS Γ T st o with
 | some p => rfl
 | none =>
  dsimp only
  rw [memS_none h]
  dsimp only
  split
  · rename_i c ho
    rw [noCall (.inl h) st c ho]
  · rfl
theorem runS_mem {r : Code → Tab → St → RT} {o : Oper} (h : kindO o.op = 1) (fin : Tab → St → SV → RT) (T : Tab) (st : St) :
  runS Γ r o fin T st = (match memS Γ st o with | some (st1, v) => fin T st1 v | none => none) := by
 unfold runS opS
 rw [pureS_none h]
 dsimp only
 cases hp : memS Γ st o with
 | some p => rfl
 | none =>
  dsimp only
  split
  · rename_i c ho
    rw [noCall (.inr h) st c ho]
  · rfl
theorem yBody_eq {g : Nat} (es : List YE) (p : YP) (k : YC) (T : Tab) (st : St) (hn : summS Γ g T st (argsY es st) = none) :
  (yBody Γ rec g es p k).f T st = callS Γ (fun c => (rec c).f) T st g (argsY es st) (thenP p k) := by
 unfold yBody callS
 rw [hn]
 dsimp only
 cases Γ.fns.get g with
 | none => rfl
 | some F =>
  dsimp only
  cases F.body with
  | none => rfl
  | some code =>
   dsimp only
   show cBody2 Γ F (rec code) (flatL Γ F.resultTypes.toList) p k T st (argsY es st) = _
   unfold cBody2
   cases noPtrs (argsY es st) && flatL Γ F.resultTypes.toList <;> rfl
theorem callS_eq {g : Nat} (es : List YE) (p : YP) (k : YC) (T : Tab) (st : St) :
  (yCall Γ rec g es p k).f T st = callS Γ (fun c => (rec c).f) T st g (argsY es st) (thenP p k) := by
 unfold yCall
 cases hs : Γ.summ g with
 | none =>
  dsimp only
  exact yBody_eq es p k T st (by unfold summS; rw [hs])
 | some s =>
  dsimp only
  show cSumm s es p k (yBody Γ rec g es p k) T st = _
  unfold cSumm
  cases hv : s T st (argsY es st) with
  | none =>
   dsimp only
   exact yBody_eq es p k T st (by unfold summS; rw [hs]; exact hv)
  | some q =>
   have : summS Γ g T st (argsY es st) = some q := by unfold summS; rw [hs]; exact hv
   unfold callS
   rw [this]
theorem yStep_eq (ops : Array Oper) (o : Oper) (k : YC) (T : Tab) (st : St) :
  (yStep Γ rec ops o k).f T st = guardedS Γ (fun c => (rec c).f) ops o (thenP (yP o.dst) k) T st := by
 unfold yStep
 split
 · rfl
 · rename_i hg
   have e : guardedS Γ (fun c => (rec c).f) ops o (thenP (yP o.dst) k) T st = runS Γ (fun c => (rec c).f) o (thenP (yP o.dst) k) T st := by
    unfold guardedS; rw [hg]
   rw [e]
   split
   · rename_i hk
     rw [runS_pure hk]
     show bindR ((yO Γ o).f T st) (fun T1 v => thenP (yP o.dst) k T1 st v) = _
     rw [yO_eq, bindR_eq]
     rfl
   · rename_i hk
     rw [runS_mem hk]
     show bindM (mGen Γ o T st) _ = _
     unfold mGen
     cases memS Γ st o <;> rfl
   · split
     · rename_i c ho
       split
       · rename_i g hc
         rw [callS_eq, argsY_eq]
         have hp : pureS Γ T st o = none := by
          unfold pureS pure1S pureB
          rw [ho]
          obtain ⟨cal, as, ts⟩ := c
          dsimp only at hc
          subst hc
          rfl
         have hm : memS Γ st o = none := by
          unfold memS
          rw [ho]
          obtain ⟨cal, as, ts⟩ := c
          dsimp only at hc
          subst hc
          rfl
         unfold runS opS
         rw [hp]
         dsimp only
         rw [hm]
         dsimp only
         rw [ho]
         dsimp only
         have : calleeS st c = some (g, c.args.toList.map st.eval) := by
          unfold calleeS; rw [hc]; rfl
         rw [this]
       · rfl
     · rfl
theorem yOps_eq (ops : Array Oper) : ∀ (l : List Oper) (T : Tab) (st : St), (yOps Γ rec ops l).f T st = opsL Γ (fun c => (rec c).f) ops l T st
 | [], _, _ => rfl
 | o :: l, T, st => by
  unfold yOps opsL
  rw [yStep_eq]
  congr 1
  funext T st v
  show bindP ((yP o.dst).f v st) ((yOps Γ rec ops l).f T) = _
  rw [bindP_eq, yP_eq]
  cases st.put o.dst v with
  | none => rfl
  | some st1 => exact yOps_eq ops l T st1
theorem loopY_eq (c : Code) : ∀ (n : Nat) (T : Tab) (st : St), loopY (rec c) n T st = loopS (fun c => (rec c).f) c n T st
 | 0, _, _ => rfl
 | n + 1, T, st => by
  unfold loopY loopS
  rw [bindT_eq]
  cases (rec c).f T st with
  | none => rfl
  | some p =>
   obtain ⟨T1, t⟩ := p
   dsimp only
   rw [bindY_eq]
   congr 1
   funext T e s
   cases e with
   | normal => exact loopY_eq c n T s
   | leave id => rfl
   | ret => rfl
theorem tidyY_eq (fa : Tr Bool) (r : RT) : tidyY fa r = tidyO fa r := by
 cases r with
 | none => rfl
 | some p =>
  obtain ⟨T, t⟩ := p
  cases t <;> rfl
theorem decideX_lit (T : Tab) (fa : Tr Bool) (n : Int) : decideX T fa (.lit n) = .known (n == 1) := by
 unfold decideX fuelD
 unfold decideF
 rfl
theorem yD_eq (o : Oper) (hc : isCall o.op = false) (T : Tab) (st0 : St) (nbA : Nat) (st : St) (nid : Nat) : (yD Γ o).f T st0 nbA st nid = drawOp Γ T st0 nbA st nid o := by
 unfold yD
 split
 · rename_i hk
   show dPure (yO Γ o) (slotsOf o) T st0 nbA st nid = _
   unfold dPure
   rw [yO_eq]
   have hn : noMem st0 nbA st = ⟨st0.nt, st.fr, nbA, .nil, st.fa⟩ := rfl
   rw [hn]
   unfold drawOp
   split
   · rename_i ho; rw [ho] at hk; cases hk
   · rename_i ho; rw [ho] at hk; cases hk
   · rename_i ho; rw [ho] at hk; cases hk
   · rename_i ho; rw [ho] at hk; cases hk
   · cases pureS Γ T ⟨st0.nt, st.fr, nbA, .nil, st.fa⟩ o <;> rfl
 · split
   · rename_i t ho
     split
     · rename_i i hi
       show dAlloc i.zero t (slotsOf o) T st0 nbA st nid = _
       unfold dAlloc drawOp
       rw [ho]
       dsimp only
       rw [hi]
       cases Nat.blt nid nbA <;> rfl
     · rfl
   · rename_i t x ho
     split
     · rename_i i hi
       show dLoad i.agg i.size (slotsOf o) (yE x) T st0 nbA st nid = _
       unfold dLoad drawOp
       rw [ho]
       dsimp only
       rw [yE_eq]
       generalize st.eval x = v
       cases v with
       | w a => cases a with
        | one c => cases c with
         | ptr b q =>
          dsimp only
          unfold dLoadB
          cases st.bs.get b with
          | none => rfl
          | some B =>
           dsimp only
           unfold partM
           cases isMany B.cells with
           | true => rfl
           | false =>
            dsimp only
            rw [partOf_eq hi]
            cases resV T (partOf Γ t B.cells q) <;> rfl
         | _ => rfl
        | agg l => rfl
       | _ => rfl
     · rfl
   · rfl
theorem appY_eq (k : Nat) (d : Option Nat) (v : SV) (blk : Option (Nat × Blk)) (st : St) : appY (yA d) v blk st = (⟨k, d, v, blk⟩ : Dl).app st := by
 obtain ⟨nt, fr, nb, bs, fa⟩ := st
 unfold appY Dl.app yA putBlk
 dsimp only
 cases d with
 | none => cases blk <;> rfl
 | some t =>
  have : (yS fuelT (Nat.succ t)).f v fr = fr.set fuelT t v := yS_eq _ _ _ _
  dsimp only
  rw [this]
  cases blk <;> rfl
theorem yWB_eq (g : Nat) (T : Tab) (st0 : St) (fa : Tr Bool) (nbA : Nat) (args : List SV) (hn : summS Γ g T (summSt st0 nbA fa (noPtrs args)) args = none) : (yWB Γ rec g).f T st0 fa nbA args = callD Γ (fun c => (rec c).f) T st0 fa nbA g args := by
 unfold yWB callD
 rw [hn]
 dsimp only
 cases Γ.fns.get g with
 | none => rfl
 | some F =>
  dsimp only
  cases F.body with
  | none => rfl
  | some code =>
   dsimp only
   show wBody Γ F (rec code) T st0 fa nbA args = _
   unfold wBody
   cases noPtrs args <;> rfl
theorem yW_eq (g : Nat) (T : Tab) (st0 : St) (fa : Tr Bool) (nbA : Nat) (args : List SV) : (yW Γ rec g).f T st0 fa nbA args = callD Γ (fun c => (rec c).f) T st0 fa nbA g args := by
 unfold yW
 cases hs : Γ.summ g with
 | none =>
  dsimp only
  exact yWB_eq g T st0 fa nbA args (by unfold summS; rw [hs])
 | some s =>
  dsimp only
  show wSumm s (yWB Γ rec g) T st0 fa nbA args = _
  unfold wSumm
  cases hv : s T (summSt st0 nbA fa (noPtrs args)) args with
  | none =>
   dsimp only
   exact yWB_eq g T st0 fa nbA args (by unfold summS; rw [hs]; exact hv)
  | some q =>
   have : summS Γ g T (summSt st0 nbA fa (noPtrs args)) args = some q := by unfold summS; rw [hs]; exact hv
   unfold callD
   rw [this]
theorem yDraw_eq : ∀ (l : List Oper) (k : Nat) (st0 : St) (nbA : Nat) (T : Tab) (st : St) (nid : Nat) (fin : Tab → St → List (Dl × Fp) → RT),
  (yDraw Γ rec l k).f st0 nbA T st nid fin = drawL Γ (fun c => (rec c).f) st0 nbA l k T st nid fin
 | [], _, _, _, _, _, _, _ => rfl
 | o :: rest, k, st0, nbA, T, st, nid, fin => by
  unfold yDraw
  split
  · rename_i hg hlow
    split
    · rename_i hc
      show dStep (yD Γ o) (yA o.dst) k o.dst (yDraw Γ rec rest (k + 1)) st0 nbA T st nid fin = _
      unfold dStep drawL
      rw [hg, hlow]
      cases dstLow st0.nt o.dst with
      | false => rfl
      | true =>
       dsimp only
       rw [yD_eq o hc]
       cases drawOp Γ T st0 nbA st nid o with
       | none =>
        dsimp only
        cases ho : o.op <;> first | rfl | (rw [ho] at hc; cases hc)
       | some p =>
        obtain ⟨T1, v, blk, fp, nid'⟩ := p
        dsimp only
        cases blkLow blk with
        | false => rfl
        | true =>
         dsimp only
         rw [yDraw_eq rest (k + 1), appY_eq k]
    · rename_i hc
      split
      · rename_i c ho
        split
        · rename_i g hcal
          show dCall (yW Γ rec g) (c.args.toList.map yE) (slotsOf o) (yA o.dst) k o.dst (yDraw Γ rec rest (k + 1)) st0 nbA T st nid fin = _
          unfold dCall drawL
          rw [hg, hlow]
          cases dstLow st0.nt o.dst with
          | false => rfl
          | true =>
           have hdr : drawOp Γ T st0 nbA st nid o = none := by
            unfold drawOp
            rw [ho]
            obtain ⟨cal, as, ts⟩ := c
            dsimp only at hcal
            subst hcal
            dsimp only
            have : pureS Γ T ⟨st0.nt, st.fr, nbA, .nil, st.fa⟩ o = none := by
             unfold pureS pure1S pureB; rw [ho]
            rw [this]
           have hcl : calleeS st c = some (g, c.args.toList.map st.eval) := by
            unfold calleeS; rw [hcal]; rfl
           dsimp only
           rw [hdr]
           dsimp only
           rw [ho]
           dsimp only
           rw [hcl]
           dsimp only
           rw [yW_eq, argsY_eq]
           cases callD Γ (fun c => (rec c).f) T st0 st.fa nbA g (c.args.toList.map st.eval) with
           | none => rfl
           | some p =>
            obtain ⟨T1, vt, opn⟩ := p
            dsimp only
            congr 1
            funext T st v
            rw [yDraw_eq rest (k + 1), appY_eq k]
        · rfl
      · rename_i hno
        cases ho : o.op <;> first | (rw [ho] at hc; cases hc; done) | exact absurd ho (hno _)
  · rename_i hno
    unfold drawL
    show none = _
    split
    · rename_i h1 h2 h3; exact absurd h2 (fun h => hno h1 h)
    · rfl
theorem yDrawS_eq (ops : Array Oper) (T : Tab) (st : St) : (yDrawS Γ rec ops).f T st = drawOne Γ (fun c => (rec c).f) ops T st := by
 show cDraw (Nat.blt ops.size 5000) (countAllocs ops.toList) (yDraw Γ rec ops.toList 0) ops.toList T st = _
 have hfin : dFin ops.toList = fun T st' l => (match clear2 ops.toList l with | true => some (T, .leaf .normal st') | false => none) := by
  funext T st' l
  unfold dFin
  cases clear2 ops.toList l <;> rfl
 unfold cDraw drawOne
 rw [yDraw_eq, hfin]
 rfl
theorem yCode_eq (c : Code) (T : Tab) (st : St) : (yCode Γ rec c).f T st = codeS Γ (fun c => (rec c).f) c T st := by
 cases c with
 | skip => rfl
 | region id ops d =>
  cases d with
  | false =>
   show openI (allSlots ops.toList) (yOps Γ rec ops ops.toList).f 2 T st = openI (allSlots ops.toList) (opsL Γ (fun c => (rec c).f) ops ops.toList) 2 T st
   congr 1
   funext T st
   exact yOps_eq ops ops.toList T st
  | true =>
   show openI (allSlots ops.toList) (yDrawS Γ rec ops).f 2 T st = openI (allSlots ops.toList) (drawOne Γ (fun c => (rec c).f) ops) 2 T st
   congr 1
   funext T st
   exact yDrawS_eq ops T st
 | seq a b =>
  show bindT ((rec a).f T st) (fun T1 t => bindY t (seqG (rec b)) T1) = _
  unfold codeS
  dsimp only
  rw [bindT_eq]
  cases (rec a).f T st with
  | none => rfl
  | some p =>
   obtain ⟨T1, t⟩ := p
   dsimp only
   rw [bindY_eq]
   congr 1
   funext T e s
   cases e <;> rfl
 | cond c a b =>
  show onBool ((yE c).f st) (condX (rec a) (rec b) T st) = _
  unfold codeS
  dsimp only
  rw [yE_eq]
  generalize st.eval c = v
  cases v with
  | w y => cases y with
   | one z => cases z with
    | bool x =>
     show condX (rec a) (rec b) T st x = condS x (rec a).f (rec b).f T st
     cases x with
     | lit n =>
      show (Bool.rec ((rec b).f T st) ((rec a).f T st) (isOne n) : RT) = _
      unfold condS
      rw [decideX_lit, isOne_eq]
      cases (n == 1) <;> rfl
     | reg r => rfl
    | _ => rfl
   | agg l => rfl
  | _ => rfl
 | block id c =>
  show bindT ((rec c).f T st) (fun T1 t => tidyY st.fa (bindY t (blockG id) T1)) = _
  unfold codeS
  dsimp only
  rw [bindT_eq]
  cases (rec c).f T st with
  | none => rfl
  | some p =>
   obtain ⟨T1, t⟩ := p
   dsimp only
   rw [tidyY_eq, bindY_eq]
   congr 2
   funext T e s
   cases e with
   | normal => rfl
   | leave j =>
    show (Bool.rec (some (T, .leaf (.leave j) s)) (some (T, .leaf .normal s)) (Nat.beq j id) : RT) = _
    dsimp only
    cases Nat.beq j id <;> rfl
   | ret => rfl
 | loop c => exact loopY_eq c 400 T st
 | _ => rfl
end
theorem yExec_eq (Γ : Ctx) : ∀ (n : Nat) (c : Code) (T : Tab) (st : St), (yExec Γ n c).f T st = exec Γ n c T st
 | 0, _, _, _ => rfl
 | n + 1, c, T, st => by
  show (yCode Γ (yExec Γ n) c).f T st = codeS Γ (exec Γ n) c T st
  rw [yCode_eq]
  congr 1
  funext c T st
  exact yExec_eq Γ n c T st
end
end Go.Sx

namespace Go.Sx
noncomputable section
open Go.RowKit
/-! ### The registers' values -/
def X.below (n : Nat) : X → Bool
 | .lit _ => true
 | .reg r => Nat.blt r n
def allBelow (n : Nat) : List X → Bool
 | [] => true
 | x :: l => x.below n && allBelow n l
def goodTab (n0 : Nat) (T : Tab) : Bool := Tr.chk (fun r d => Nat.ble n0 r && allBelow r d.a) 1 0 T.defs
def approx (T : Tr D) (inp : Nat → Int) : Nat → Nat → Int
 | 0, r => inp r
 | k + 1, r => match T.get r with
  | none => inp r
  | some d => d.ev (approx T inp k)
theorem ev_congr {ρ ρ' : Nat → Int} {n : Nat} (h : ∀ s, s < n → ρ s = ρ' s) : ∀ {l : List X}, allBelow n l = true → l.map (X.ev ρ) = l.map (X.ev ρ')
 | [], _ => rfl
 | x :: l, hb => by
  simp only [allBelow, Bool.and_eq_true] at hb
  simp only [List.map_cons]
  rw [ev_congr h hb.2]
  congr 1
  cases x with
  | lit n => rfl
  | reg r =>
   have : r < n := by have := hb.1; simpa [X.below, Nat.blt_eq] using this
   exact h r this
theorem exists_rho {n0 : Nat} {T : Tab} (h : goodTab n0 T = true) (inp : Nat → Int) : ∃ ρ, (∀ r, r < n0 → ρ r = inp r) ∧ Sat ρ T := by
 have hd : ∀ r d, T.defs.get r = some d → n0 ≤ r ∧ allBelow r d.a = true := by
  intro r d hr
  have := Tr.chk_spec _ _ _ h r d hr
  simp only [Nat.one_mul, Nat.add_zero, Bool.and_eq_true] at this
  exact ⟨Nat.le_of_ble_eq_true this.1, this.2⟩
 have stable : ∀ r k, r < k → approx T.defs inp k r = approx T.defs inp (r + 1) r := by
  intro r
  induction r using Nat.strongRecOn with
  | _ r ih =>
   intro k hk
   obtain ⟨k, rfl⟩ : ∃ m, k = m + 1 := ⟨k - 1, by omega⟩
   simp only [approx]
   cases hr : T.defs.get r with
   | none => rfl
   | some d =>
    simp only
    unfold D.ev
    rw [ev_congr (n := r) (fun s hs => ?_) (hd r d hr).2]
    rw [ih s hs k (by omega), ih s hs r hs]
 refine ⟨fun r => approx T.defs inp (r + 1) r, fun r hr => ?_, fun r d hr => ?_⟩
 · simp only [approx]
   cases hg : T.defs.get r with
   | none => rfl
   | some d => have := (hd r d hg).1; omega
 · simp only
   rw [approx, hr]
   simp only
   unfold D.ev
   rw [ev_congr (n := r) (fun s hs => ?_) (hd r d hr).2]
   exact stable s r hs
/-! ### Inputs -/
inductive Kd where
 | int (k : IntKind)
 | flt (k : FloatKind)
 | bool
def Kd.sc (k : Kd) (r : Nat) : SC :=
 match k with
 | .int k => .int k (.reg r)
 | .flt k => .flt k (.reg r)
 | .bool => .bool (.reg r)
def Kd.fits : Kd → Value → Prop
 | .int k, v => ∃ n, v = .int k n
 | .flt k, v => ∃ b, v = .float k b
 | .bool, v => ∃ b, v = .bool b
def Ms : List Kd → List Value → Prop
 | [], [] => True
 | k :: l, v :: m => k.fits v ∧ Ms l m
 | _, _ => False
def inOf : Value → Int
 | .int _ n => n
 | .float k b => canon k b
 | .bool b => b2i b
 | _ => 0
def symL : Nat → List Kd → List SC
 | _, [] => []
 | i, k :: l => k.sc i :: symL (i + 1) l
theorem Kd.rel {ρ : Nat → Int} {μ : Mu} {k : Kd} {v : Value} {i : Nat} (h : k.fits v) (hr : ρ i = inOf v) : (k.sc i).rel ρ μ v := by
 cases k with
 | int k => obtain ⟨n, rfl⟩ := h; show Value.int _ _ = Value.int _ _; rw [show (X.reg i).ev ρ = ρ i from rfl, hr]; rfl
 | flt k => obtain ⟨b, rfl⟩ := h; exact ⟨b, rfl, by rw [show (X.reg i).ev ρ = ρ i from rfl, hr]; rfl⟩
 | bool => obtain ⟨b, rfl⟩ := h; show Value.bool _ = Value.bool _; rw [show (X.reg i).ev ρ = ρ i from rfl, hr]; show Value.bool b = _; rw [show inOf (.bool b) = b2i b from rfl, b2i_eq]
theorem symL_rel {ρ : Nat → Int} {μ : Mu} : ∀ {ks : List Kd} {vs : List Value} {i : Nat}, Ms ks vs → (∀ j v, vs[j]? = some v → ρ (i + j) = inOf v) → cellsRel ρ μ (symL i ks) vs
 | [], [], _, _, _ => trivial
 | k :: ks, v :: vs, i, h, hr => by
  refine ⟨Kd.rel h.1 (by have := hr 0 v rfl; simpa using this), symL_rel h.2 fun j u hj => ?_⟩
  rw [show i + 1 + j = i + (j + 1) by omega]
  exact hr (j + 1) u (by simpa using hj)
 | [], _ :: _, _, h, _ => h.elim
 | _ :: _, [], _, h, _ => h.elim
theorem Ms_length : ∀ {ks : List Kd} {vs : List Value}, Ms ks vs → ks.length = vs.length
 | [], [], _ => rfl
 | _ :: _, _ :: _, h => by simp [Ms_length h.2]
 | [], _ :: _, h => h.elim
 | _ :: _, [], h => h.elim
inductive AK where
 | one (k : Kd)
 | agg (l : List Kd)
def AK.size : AK → Nat
 | .one _ => 1
 | .agg l => l.length
def AK.fits : AK → Value → Prop
 | .one k, v => k.fits v
 | .agg l, v => ∃ cs : Array Value, v = .agg cs ∧ Ms l cs.toList
def AK.sv (i : Nat) : AK → SV
 | .one k => .c (k.sc i)
 | .agg l => .w (.agg (symL i l))
def As : List AK → List Value → Prop
 | [], [] => True
 | k :: l, v :: m => k.fits v ∧ As l m
 | _, _ => False
def symA : Nat → List AK → List SV
 | _, [] => []
 | i, k :: l => k.sv i :: symA (i + k.size) l
def sizeA : List AK → Nat
 | [] => 0
 | k :: l => k.size + sizeA l
def flat : List AK → List Value → List Value
 | k :: l, v :: m => (match k with | .one _ => [v] | .agg _ => v.cells.toList) ++ flat l m
 | _, _ => []
theorem symA_rel {ρ : Nat → Int} {μ : Mu} : ∀ {ks : List AK} {vs : List Value} {i : Nat}, As ks vs → (∀ j v, (flat ks vs)[j]? = some v → ρ (i + j) = inOf v) → svsRel ρ μ (symA i ks) vs
 | [], [], _, _, _ => trivial
 | k :: ks, v :: vs, i, h, hr => by
  cases k with
  | one k =>
   refine ⟨Kd.rel h.1 (by have := hr 0 v rfl; simpa using this), symA_rel h.2 fun j u hj => ?_⟩
   rw [show i + (AK.one k).size + j = i + (j + 1) by show i + 1 + j = _; omega]
   exact hr (j + 1) u (by simpa [flat] using hj)
  | agg l =>
   obtain ⟨⟨cs, rfl, hm⟩, h2⟩ := h
   have hlen := Ms_length hm
   refine ⟨⟨cs, rfl, symL_rel hm fun j u hj => hr j u ?_⟩, symA_rel h2 fun j u hj => ?_⟩
   · simp only [flat]
     rw [List.getElem?_append_left (by have := (List.getElem?_eq_some_iff.1 hj).1; exact this)]
     exact hj
   · rw [show i + (AK.agg l).size + j = i + (l.length + j) by show i + l.length + j = _; omega]
     refine hr _ u ?_
     simp only [flat]
     show ((Value.agg cs).cells.toList ++ flat ks vs)[l.length + j]? = some u
     rw [hlen]
     show (cs.toList ++ flat ks vs)[cs.toList.length + j]? = some u
     rw [List.getElem?_append_right (by omega)]
     simpa using hj
 | [], _ :: _, _, h, _ => h.elim
 | _ :: _, [], _, h, _ => h.elim
theorem flat_length : ∀ {ks : List AK} {vs : List Value}, As ks vs → (flat ks vs).length = sizeA ks
 | [], [], _ => rfl
 | k :: ks, v :: vs, h => by
  cases k with
  | one k => simp [flat, sizeA, AK.size, flat_length h.2]; omega
  | agg l =>
   obtain ⟨⟨cs, rfl, hm⟩, h2⟩ := h
   have := Ms_length hm
   simp only [flat, sizeA, AK.size, List.length_append, flat_length h2]
   show cs.toList.length + _ = _
   omega
 | [], _ :: _, h => h.elim
 | _ :: _, [], h => h.elim
/-! ### All leaves true -/
def leafTrue (Γ : Ctx) (F : Func) (T : Tab) (st : St) : Bool :=
 match resultsS Γ st F.results.toList with
 | some (.w (.one (.bool x))) => match trueX T x 1000 st.fa with
  | true => true
  | false => match deep T st.fa with
   | true => true
   | false => dead T st.fa
 | _ => false
def allTrue (Γ : Ctx) (F : Func) (T : Tab) : Tree → Bool
 | .leaf .normal st => leafTrue Γ F T st
 | .leaf .ret st => leafTrue Γ F T st
 | .leaf (.leave _) _ => false
 | .node _ a b => match allTrue Γ F T a with
  | true => allTrue Γ F T b
  | false => false
def runF (Γ : Ctx) (F : Func) (ks : List AK) : Option (Tab × Tree) :=
 match F.body with
 | some c => (yExec Γ 400 c).f ⟨sizeA ks, .nil, .nil⟩ ⟨ks.length + (F.ntmps - ks.length), frameOf 0 (symA 0 ks), 0, .nil, .nil⟩
 | none => none
def lawOK (Γ : Ctx) (F : Func) (ks : List AK) : Bool :=
 match runF Γ F ks with
 | some (T, t) => match goodTab (sizeA ks) T with
  | true => allTrue Γ F T t
  | false => false
 | none => false
theorem symA_length : ∀ (ks : List AK) (i : Nat), (symA i ks).length = ks.length
 | [], _ => rfl
 | _ :: ks, i => by simp [symA, symA_length ks]
theorem trueX_spec {ρ : Nat → Int} {T : Tab} (hs : Sat ρ T) {x : X} : ∀ (n : Nat) {fa : Tr Bool}, Facts ρ fa → trueX T x n fa = true → (x.ev ρ == 1) = true
 | 0, _, _, h => by cases h
 | n + 1, fa, hf, h => by
  have hd := decideX_spec hs hf x
  unfold trueX at h
  split at h
  · rename_i hk; rw [hk] at hd; exact hd
  · exact (contra_spec hs hf h).elim
  · rename_i q p hk
    rw [hk] at hd
    have hd : (x.ev ρ == 1) = ((ρ q == 1) == p) := hd
    by_cases e : (ρ q == 1) = (!p)
    · exact (contra_spec hs (hf.set e) h).elim
    · rw [hd]
      revert e
      cases (ρ q == 1) <;> cases p <;> simp
  · rename_i q hk
    split at h
    · rename_i h1
      cases e : (ρ q == 1) with
      | true => exact trueX_spec hs n (hf.set e) h1
      | false => exact trueX_spec hs n (hf.set e) h
    · cases h
theorem leafTrue_spec {P : Program} {Γ : Ctx} (hΓ : Γ.ok P) {ρ : Nat → Int} {F : Func} {T : Tab} (hs : Sat ρ T) {st : St} (h : leafTrue Γ F T st = true) {w0 : Base} {μ : Mu} {a : Act} {w : World} (hw : StRel ρ w0 μ st a w) :
  ∃ v, (results F a.tmps).run P w = .ok v w ∧ v = .bool true := by
 unfold leafTrue at h
 split at h
 · rename_i x hr
   obtain ⟨v, hv, hrel⟩ := resultsS_sound hΓ hr hw
   refine ⟨v, hv, ?_⟩
   have e : v = .bool (x.ev ρ == 1) := hrel
   split at h
   · rename_i ht; rw [e, trueX_spec hs _ hw.fa ht]
   · split at h
     · rename_i hd; exact (deep_spec hs hw.fa hd).elim
     · exact (dead_spec hs hw.fa h).elim
 · cases h
theorem allTrue_sat {P : Program} {Γ : Ctx} (hΓ : Γ.ok P) {ρ : Nat → Int} {F : Func} {T : Tab} (hs : Sat ρ T) (w0 : World) (hT : TabOK w0) :
  ∀ {t : Tree}, allTrue Γ F T t = true → t.sat ρ (Leafs ρ (Base.all w0 hT) (bodyPost P F fun e w' => e = .returned (.bool true) ∧ Below w0.heap.size w0 w') (fun _ => none))
 | .leaf .normal st, h => fun μ a w _ hw => by
  obtain ⟨v, hv, rfl⟩ := leafTrue_spec hΓ hs h hw
  exact ⟨hw.defers, _, hv, rfl, hw.wr.kept.below⟩
 | .leaf .ret st, h => fun μ a w _ hw => by
  obtain ⟨v, hv, rfl⟩ := leafTrue_spec hΓ hs h hw
  exact ⟨hw.defers, _, hv, rfl, hw.wr.kept.below⟩
 | .leaf (.leave id) st, h => by cases h
 | .node r a b, h => by
  unfold allTrue at h
  split at h
  · rename_i ha
    simp only [Tree.sat]
    split
    · exact allTrue_sat hΓ hs w0 hT ha
    · exact allTrue_sat hΓ hs w0 hT h
  · cases h
theorem run_true {P : Program} {Γ : Ctx} (hΓ : Γ.ok P) (hsum : ∀ f s, Γ.summ f = some s → SummOK P f s) {f : Nat} {F : Func} (hF : P.funcs[f]? = some F) {ks : List AK}
  (hrun : lawOK Γ F ks = true) {vs : Array Value} (hvs : As ks vs.toList) (w : World) (hT : TabOK w) :
  Calls P f vs w fun e w' => e = .returned (.bool true) ∧ Below w.heap.size w w' := by
 unfold lawOK at hrun
 split at hrun
 · rename_i T t hr
   split at hrun
   · rename_i hg
     unfold runF at hr
     split at hr
     · rename_i c hb
       rw [yExec_eq] at hr
       obtain ⟨ρ, hin, hs⟩ := exists_rho hg (fun r => ((flat ks vs.toList)[r]?.map inOf).getD 0)
       have hfl := flat_length hvs
       have hrel : svsRel ρ (fun _ => none) (symA 0 ks) vs.toList := symA_rel hvs fun j v hj => by
        have hlt := (List.getElem?_eq_some_iff.1 hj).1
        rw [Nat.zero_add, hin j (by omega), hj]; rfl
       obtain ⟨_, hwp⟩ := exec_sound (ρ := ρ) hΓ hsum 400 _ _ _ _ _ hr hs
       have hfr := frame_enter hrel F.ntmps
       rw [symA_length] at hfr
       refine calls_of_wp hF hb (hwp (Base.all w hT) (fun _ => none) _ w _ ⟨rfl, hfr, WR.none w _, (fun r b h => by cases h)⟩ ?_)
       exact allTrue_sat hΓ hs w hT hrun
     · cases hr
   · cases hrun
 · cases hrun
end
end Go.Sx

namespace Go.Sx
noncomputable section
open Go.RowKit Go.WideShapes
/-! ### The type table's check -/
def tdCheck : TD → TypeDesc → Bool
 | .arr n e, .array n' e' => n == n' && e == e'
 | .slice e, .slice e' => e == e'
 | .ptr e, .pointer e' => e == e'
 | .struct fs, .struct F => (F.toList.map fun f => (f.offset, f.type)) == fs
 | .int k, .int k' => decide (k = k')
 | .float k, .float k' => decide (k = k')
 | .bool, .bool => true
 | .string, .string => true
 | .other, .struct _ => false
 | .other, .array _ _ => false
 | .other, _ => true
 | _, _ => false
theorem tdCheck_ok {d : TD} {t : TypeDesc} (h : tdCheck d t = true) : d.ok t := by
 cases d <;> cases t <;> simp [tdCheck] at h <;> simp [TD.ok, h]
def scZero : SC → Value → Bool
 | .int k (.lit n), .int k' m => decide (k = k') && ibeq n m
 | .flt k (.lit n), .float k' b => decide (k = k') && (ibeq n b && !(isN k b))
 | .bool (.lit n), .bool b => (n == 1) == b
 | .raw (.slice none 0 0), .slice none 0 0 => true
 | .raw (.pointer none), .pointer none => true
 | .raw (.string s), .string t => s.data.isEmpty && t.data.isEmpty
 | _, _ => false
theorem scZero_ok {c : SC} {v : Value} (h : scZero c v = true) (ρ : Nat → Int) (μ : Mu) : c.rel ρ μ v := by
 unfold scZero at h
 split at h
 · simp only [Bool.and_eq_true, decide_eq_true_eq] at h
   obtain ⟨rfl, h⟩ := h
   rw [ibeq_eq h]; rfl
 · simp only [Bool.and_eq_true, decide_eq_true_eq, Bool.not_eq_true'] at h
   obtain ⟨rfl, h1, h2⟩ := h
   exact ⟨_, rfl, by rw [canon_num h2, ← ibeq_eq h1]; rfl⟩
 · simp only [beq_iff_eq] at h
   subst h; rfl
 · exact ⟨rfl, rfl⟩
 · exact ⟨rfl, rfl⟩
 · rename_i s t
   simp only [Bool.and_eq_true, Array.isEmpty_iff] at h
   have : t = s := by cases s; cases t; simp_all
   subst this
   exact ⟨rfl, rfl⟩
 · cases h
def zerosCheck : List SC → List Value → Bool
 | [], [] => true
 | c :: l, v :: m => scZero c v && zerosCheck l m
 | _, _ => false
theorem zerosCheck_ok : ∀ {l : List SC} {m : List Value}, zerosCheck l m = true → ∀ ρ μ, cellsRel ρ μ l m
 | [], [], _, _, _ => trivial
 | c :: l, v :: m, h, ρ, μ => by
  simp only [zerosCheck, Bool.and_eq_true] at h
  exact ⟨scZero_ok h.1 ρ μ, zerosCheck_ok h.2 ρ μ⟩
 | [], _ :: _, h, _, _ => by cases h
 | _ :: _, [], h, _, _ => by cases h
def tiCheck (P : Program) (t : Nat) (i : TI) : Bool :=
 match P.underlying t, P.info? t with
 | some d, some n =>
  match n.zero with
  | some z => tdCheck i.d d && (Nat.beq i.zero.length i.size && (Nat.beq n.size i.size && (zerosCheck i.zero z.cells.toList && Nat.ble n.bytes 1048576)))
  | none => false
 | _, _ => false
theorem tiCheck_ok {P : Program} {t : Nat} {i : TI} (h : tiCheck P t i = true) : i.ok P t := by
 unfold tiCheck at h
 split at h
 · rename_i d n hd hn
   split at h
   · rename_i z hz
     simp only [Bool.and_eq_true] at h
     obtain ⟨h1, h2, h3, h4, h5⟩ := h
     exact ⟨⟨d, hd, tdCheck_ok h1⟩, Nat.eq_of_beq_eq_true h2, n, z, hn, Nat.eq_of_beq_eq_true h3, hz, zerosCheck_ok h4, Nat.le_of_ble_eq_true h5⟩
   · cases h
 · cases h
def tysCheck (P : Program) : List (Nat × TI) → Bool
 | [] => true
 | (t, i) :: l => tiCheck P t i && tysCheck P l
theorem tysCheck_ok {P : Program} : ∀ {l : List (Nat × TI)}, tysCheck P l = true → ∀ t i, (t, i) ∈ l → i.ok P t
 | [], _, _, _, h => by cases h
 | (t', i') :: l, hc, t, i, h => by
  simp only [tysCheck, Bool.and_eq_true] at hc
  cases h with
  | head => exact tiCheck_ok hc.1
  | tail _ h => exact tysCheck_ok hc.2 t i h
theorem ctx_ok {P : Program} {tys : List (Nat × TI)} {fns : List (Nat × Func)} {summ : Nat → Option Summ} (h0 : P.follows .mixedOrders = true) (h1 : tysCheck P tys = true)
  (h2 : ∀ p ∈ fns, P.funcs[p.1]? = some p.2 ∧ (p.2.name == ("runtime.NumGoroutine" : String)) = false) :
  Ctx.ok P ⟨Tr.ofList fuelT tys, Tr.ofList fuelT fns, summ⟩ :=
 ⟨h0, fun t i h => tysCheck_ok h1 t i (Tr.mem_ofList _ _ _ _ h), fun f F h => h2 _ (Tr.mem_ofList _ _ _ _ h)⟩
/-! ### Kinds of a flat type's cells -/
def repK : Nat → List Kd → List Kd
 | 0, _ => []
 | n + 1, l => l ++ repK n l
def fieldsK (sz : Nat → Option Nat) (ks : Nat → Option (List Kd)) : Nat → List (Nat × Nat) → Option (List Kd)
 | _, [] => some []
 | o, (off, t) :: fs =>
  match ks t with
  | some l =>
   match fieldsK sz ks (o + l.length) fs with
   | some m => if off = o ∧ sz t = some l.length then some (l ++ m) else none
   | none => none
  | none => none
def ksOf (Γ : Ctx) : Nat → Nat → Option (List Kd)
 | 0, _ => none
 | d + 1, t =>
  match Γ.ty.get t with
  | some i =>
   match i.d with
   | .int k => some [.int k]
   | .float k => some [.flt k]
   | .bool => some [.bool]
   | .arr n e =>
    match ksOf Γ d e with
    | some l => if sizeT Γ e = some l.length ∧ i.size = n * l.length then some (repK n l) else none
    | none => none
   | .struct fs =>
    match fieldsK (sizeT Γ) (ksOf Γ d) 0 fs with
    | some l => if l.length = i.size then some l else none
    | none => none
   | _ => none
  | none => none
theorem Ms_append : ∀ {l l' : List Kd} {vs vs' : List Value}, Ms l vs → Ms l' vs' → Ms (l ++ l') (vs ++ vs')
 | [], _, [], _, _, h' => h'
 | _ :: _, _, _ :: _, _, h, h' => ⟨h.1, Ms_append h.2 h'⟩
 | [], _, _ :: _, _, h, _ => h.elim
 | _ :: _, _, [], _, h, _ => h.elim
theorem Ms_rep {l : List Kd} {s : Nat} (hs : l.length = s) : ∀ (n : Nat) (cs : List Value), cs.length = n * s → (∀ i, i < n → Ms l ((cs.drop (i * s)).take s)) → Ms (repK n l) cs
 | 0, cs, hl, _ => by
  have : cs = [] := by apply List.eq_nil_of_length_eq_zero; simpa using hl
  subst this; trivial
 | n + 1, cs, hl, h => by
  have h0 := h 0 (by omega)
  simp only [Nat.zero_mul, List.drop_zero] at h0
  rw [← List.take_append_drop s cs]
  refine Ms_append h0 (Ms_rep hs n _ (by rw [List.length_drop, hl, Nat.succ_mul]; omega) fun i hi => ?_)
  have := h (i + 1) (by omega)
  rw [List.drop_drop]
  rw [show s + i * s = (i + 1) * s by rw [Nat.succ_mul]; omega]
  exact this
theorem mapM_mem {α β : Type} {f : α → Option β} : ∀ {l : List α} {xs : List β}, l.mapM f = some xs → ∀ a ∈ l, ∃ x, f a = some x
 | [], _, _, _, h => by cases h
 | b :: l, xs, h, a, ha => by
  rw [List.mapM_cons] at h
  cases hb : f b with
  | none => rw [hb] at h; cases h
  | some y =>
   rw [hb] at h
   cases hl : l.mapM f with
   | none => rw [hl] at h; cases h
   | some ys =>
    cases ha with
    | head => exact ⟨y, hb⟩
    | tail _ ha => exact mapM_mem hl a ha
section
variable {P : Program} {Γ : Ctx} {H : Type} {enc : TypeId × Value → H}
theorem cellsOf_size {t : Nat} {i : TI} (h : i.ok P t) : P.cellsOf t = i.size := by
 obtain ⟨n, z, h1, h2, _, _, _⟩ := h.inf
 simp [Program.cellsOf, h1, h2]
theorem cellsOf_sizeT (hΓ : Γ.ok P) {t n : Nat} (h : sizeT Γ t = some n) : P.cellsOf t = n := by
 unfold sizeT at h
 split at h
 · rename_i i hi; cases h; exact cellsOf_size (hΓ.ty t i hi)
 · cases h
theorem trod_float {k : FloatKind} {w : World} {base : Nat} {spare : Nat → Bool} {held : Bool} {fuel : Nat} {t : TypeId} {cs : List Value} {x : DataW H × List MemPlace}
  (ht : P.underlying t = some (.float k)) (h : DataW.trod enc P w base spare held fuel t cs = some x) : ∃ n, cs = [.float k n] := by
 cases fuel with
 | zero => simp [DataW.trod] at h
 | succ n =>
  unfold DataW.trod at h
  rw [ht] at h
  split at h <;> simp_all
theorem fieldsK_ms (hΓ : Γ.ok P) {ks : Nat → Option (List Kd)} {cs : List Value} : ∀ (fs : List (Nat × Nat)) (o : Nat) (l : List Kd), fieldsK (sizeT Γ) ks o fs = some l →
  (∀ off t l, (off, t) ∈ fs → ks t = some l → Ms l ((cs.drop off).take (P.cellsOf t))) → Ms l ((cs.drop o).take l.length)
 | [], o, l, h, _ => by cases h; simp [Ms]
 | (off, t) :: fs, o, l, h, hall => by
  unfold fieldsK at h
  split at h
  · rename_i l1 h1
    split at h
    · rename_i m hm
      split at h
      · rename_i hc
        cases h
        obtain ⟨rfl, hsz⟩ := hc
        have hc1 := cellsOf_sizeT hΓ hsz
        have e1 := hall off t l1 List.mem_cons_self h1
        rw [hc1] at e1
        have e2 := fieldsK_ms hΓ fs _ m hm fun off' t' l' hmem hl' => hall off' t' l' (List.mem_cons_of_mem _ hmem) hl'
        rw [List.length_append, List.take_add, List.drop_drop]
        exact Ms_append e1 e2
      · cases h
    · cases h
  · cases h
theorem trod_kinds (hΓ : Γ.ok P) {W : World} {base : Nat} {spare : Nat → Bool} {held : Bool} : ∀ (d : Nat) (t : Nat) (ks : List Kd), ksOf Γ d t = some ks → ∀ (fuel : Nat) (cs : List Value) (x : DataW H × List MemPlace),
  DataW.trod enc P W base spare held fuel t cs = some x → Ms ks cs
 | 0, _, _, h, _, _, _, _ => by cases h
 | d + 1, t, ks, h, fuel, cs, x, hx => by
  unfold ksOf at h
  split at h
  · rename_i i hi
    have ok := hΓ.ty t i hi
    obtain ⟨u, hu, ho⟩ := ok.und
    have hsz := cellsOf_size ok
    split at h
    · rename_i k hid
      cases h
      rw [hid] at ho
      have ho' : u = .int k := ho
      subst ho'
      obtain ⟨n, rfl, _⟩ := DataW.trod_int hu hx
      exact ⟨⟨n, rfl⟩, trivial⟩
    · rename_i k hid
      cases h
      rw [hid] at ho
      have ho' : u = .float k := ho
      subst ho'
      obtain ⟨n, rfl⟩ := trod_float hu hx
      exact ⟨⟨n, rfl⟩, trivial⟩
    · rename_i hid
      cases h
      rw [hid] at ho
      have ho' : u = .bool := ho
      subst ho'
      obtain ⟨n, rfl, _⟩ := DataW.trod_bool hu hx
      exact ⟨⟨n, rfl⟩, trivial⟩
    · rename_i n e hid
      rw [hid] at ho
      have ho' : u = .array n e := ho
      subst ho'
      split at h
      · rename_i l hl
        split at h
        · rename_i hc
          cases h
          obtain ⟨hs, hn⟩ := hc
          obtain ⟨xs, m, _, _, hlen, hxl, hall⟩ := DataW.trod_array hu hx
          have hce := cellsOf_sizeT hΓ hs
          refine Ms_rep rfl n cs (by rw [hlen, hsz, hn]) fun j hj => ?_
          have := hall j hj
          rw [hce] at this
          have hj' : j < xs.length := by omega
          rw [List.getElem?_eq_getElem hj'] at this
          exact trod_kinds hΓ d e l hl m _ _ this
        · cases h
      · cases h
    · rename_i fs hid
      rw [hid] at ho
      obtain ⟨F, rfl, hF⟩ := ho
      split at h
      · rename_i l hl
        split at h
        · rename_i hc
          cases h
          obtain ⟨xs, m, _, _, hlen, hxl, hall⟩ := DataW.trod_struct hu hx
          have := fieldsK_ms (cs := cs) hΓ fs 0 _ hl fun off ft l' hmem hl' => by
           subst hF
           obtain ⟨f, hf, he⟩ := List.mem_map.1 hmem
           cases he
           obtain ⟨j, hj, hjf⟩ := List.mem_iff_getElem.1 hf
           have h1 : F[j]? = some f := by
            rw [← hjf]
            simp at hj
            simp [hj]
           have h2 := hall j f h1
           have hj' : j < xs.length := by simp at hj; omega
           rw [List.getElem?_eq_getElem hj'] at h2
           exact trod_kinds hΓ d f.type l' hl' m _ _ h2
          rw [List.drop_zero, hc, ← hsz, ← hlen, List.take_length] at this
          exact this
        · cases h
      · cases h
    · cases h
  · cases h
def akOf (Γ : Ctx) (t : Nat) : Option AK :=
 match Γ.ty.get t with
 | some i =>
  match i.d with
  | .int k => some (.one (.int k))
  | .float k => some (.one (.flt k))
  | .bool => some (.one .bool)
  | .arr _ _ => match ksOf Γ 12 t with
   | some l => some (.agg l)
   | none => none
  | .struct _ => match ksOf Γ 12 t with
   | some l => some (.agg l)
   | none => none
  | _ => none
 | none => none
def aksOf (Γ : Ctx) : List Nat → Option (List AK)
 | [] => some []
 | t :: l =>
  match akOf Γ t, aksOf Γ l with
  | some k, some m => some (k :: m)
  | _, _ => none
theorem okWide_float {w : World} {r : Reach} {base : Nat} {t : TypeId} {v : Value} {k : FloatKind} (ht : P.underlying t = some (.float k)) (h : Value.okWide P w r base t v) : ∃ n, v = .float k n := by
 simp only [Value.okWide, ht, Cell.okWide, Cell.ok] at h
 cases v <;> simp_all
theorem akOf_fits (hΓ : Γ.ok P) {W : World} {base : Nat} {t : Nat} {k : AK} (h : akOf Γ t = some k) {v : Value} (hv : Value.okWide P W .any base t v)
  {b : Nat} {spare : Nat → Bool} {held : Bool} {d : DataW H} {ps : List MemPlace} (hr : DataW.Trod enc P W b spare held t v d ps) : k.fits v := by
 obtain ⟨fuel, hr⟩ := hr
 unfold akOf at h
 split at h
 · rename_i i hi
   have ok := hΓ.ty t i hi
   obtain ⟨u, hu, ho⟩ := ok.und
   split at h
   · rename_i k' hid
     cases h
     rw [hid] at ho
     have ho' : u = .int k' := ho
     subst ho'
     exact okWide_int hu hv
   · rename_i k' hid
     cases h
     rw [hid] at ho
     have ho' : u = .float k' := ho
     subst ho'
     exact okWide_float hu hv
   · rename_i hid
     cases h
     rw [hid] at ho
     have ho' : u = .bool := ho
     subst ho'
     exact okWide_bool hu hv
   · rename_i n e hid
     split at h
     · rename_i l hl
       cases h
       have hm := trod_kinds hΓ 12 t l hl fuel _ _ hr
       rw [hid] at ho
       have ho' : u = .array n e := ho
       subst ho'
       unfold Value.okWide at hv
       rw [hu] at hv
       obtain ⟨cs, rfl, _⟩ := hv
       exact ⟨cs, rfl, hm⟩
     · cases h
   · rename_i fs hid
     split at h
     · rename_i l hl
       cases h
       have hm := trod_kinds hΓ 12 t l hl fuel _ _ hr
       rw [hid] at ho
       obtain ⟨F, rfl, _⟩ := ho
       unfold Value.okWide at hv
       rw [hu] at hv
       obtain ⟨cs, rfl, _⟩ := hv
       exact ⟨cs, rfl, hm⟩
     · cases h
   · cases h
 · cases h
theorem aksOf_fits (hΓ : Γ.ok P) {W : World} {base : Nat} {b : Nat} {spare : Nat → Bool} {held : Bool} : ∀ {ts : List Nat} {ks : List AK} {vs : List Value} {ds : List (DataW H)} {ps : List MemPlace}, aksOf Γ ts = some ks →
  (∀ (j : Nat) t v, ts[j]? = some t → vs[j]? = some v → Value.okWide P W .any base t v) → DataW.TrodAll enc P W b spare held ts vs ds ps → As ks vs
 | [], ks, [], [], _, h, _, _ => by cases h; trivial
 | t :: ts, ks, v :: vs, d :: ds, ps, h, hv, hr => by
  unfold aksOf at h
  split at h
  · rename_i k m hk hm
    cases h
    obtain ⟨p, q, h1, h2, _⟩ := hr
    exact ⟨akOf_fits hΓ hk (hv 0 t v rfl rfl) h1, aksOf_fits hΓ hm (fun j t' v' ht hv' => hv (j + 1) t' v' (by simpa using ht) (by simpa using hv')) h2⟩
  · cases h
 | [], _, _ :: _, _, _, _, _, h => h.elim
 | [], _, [], _ :: _, _, _, _, h => h.elim
 | _ :: _, _, [], _, _, _, _, h => h.elim
 | _ :: _, _, _ :: _, [], _, _, _, h => h.elim
theorem trodAll_below (hl : laidOutB P = true) {W W' : World} (hb : Below W.heap.size W W') : ∀ {ts : List Nat} {vs : List Value} {ds : List (DataW H)} {ps : List MemPlace},
  (∀ t ∈ ts, P.readableRec t = true ∧ t < P.types.size) → DataW.TrodAll enc P W 0 (fun _ => true) true ts vs ds ps →
  DataW.TrodAll enc P W' 0 (fun b => decide (b < W.heap.size)) true ts vs ds ps
 | [], [], [], _, _, h => h
 | t :: ts, v :: vs, d :: ds, ps, ht, h => by
  obtain ⟨p, q, h1, h2, e⟩ := h
  have lt : ∀ x ∈ p, x.block < W.heap.size := by obtain ⟨m, hm⟩ := h1; exact DataW.trod_lt m _ _ _ hm
  exact ⟨p, q, Below.trod hl (ht t List.mem_cons_self).1 (ht t List.mem_cons_self).2 h1 hb lt, trodAll_below hl hb (fun t' h' => ht t' (List.mem_cons_of_mem _ h')) h2, e⟩
 | [], _ :: _, _, _, _, h => h.elim
 | [], [], _ :: _, _, _, h => h.elim
 | _ :: _, [], _, _, _, h => h.elim
 | _ :: _, _ :: _, [], _, _, h => h.elim
end
end
end Go.Sx

namespace Go.Sx
open Go.RowKit Ieee
theorem fsqrt_canon (x : Nat) : fsqrt .f64 (canon .f64 x) = fsqrt .f64 x := by
 unfold fsqrt Format.sqrt
 exact read_canon .f64 x (fun y => ((y.root (FloatKind.f64.format.fractionBits + 2)).map FloatKind.f64.format.write).getD (qn .f64)) (fun _ _ _ _ => rfl)
theorem sqrt_at (b : Nat) : Extern.MathSqrt.sqrt #[.float .f64 b] = (match FloatKind.f64.format.sqrt b with
  | some r => pure (.float .f64 r)
  | none => do pure (.float .f64 (← choose (.nanBits .f64 b b)))) := rfl
theorem leafV_spec {r : Option (Tab × SV)} {T : Tab} {vt : VT} (h : leafV r = some (T, vt)) : ∃ v, r = some (T, v) ∧ vt = .leaf v := by
 cases r with
 | none => cases h
 | some p => obtain ⟨T', v⟩ := p; cases h; exact ⟨v, rfl, rfl⟩
theorem sqrtS_ok {P : Program} {f : FuncId} {fn : Func} (hf : P.funcs[f]? = some fn) (hname : (fn.name == "runtime.NumGoroutine") = false)
  (hb : fn.body.isNone = true) (hn : Extern.findNext fn = none) (he : Extern.find fn = some Extern.MathSqrt.sqrt) : SummOK P f sqrtS := by
 intro T st args T1 v h ρ hs
 unfold sqrtS at h
 split at h
 · rename_i x
   obtain ⟨v', h', rfl⟩ := leafV_spec h
   obtain ⟨c, hr, rfl⟩ := resT_spec h'
   obtain ⟨z, hm, rfl⟩ := asFlt_spec hr
   obtain ⟨h1, h2⟩ := mk_spec hm hs
   refine ⟨h1, fun w0 μ nb bs vs w hfa _ hwr hvs => ?_⟩
   obtain ⟨u, hu, hrel⟩ : ∃ u, vs = #[u] ∧ (SV.w (.one (.flt .f64 x))).rel ρ μ u := by
    obtain ⟨l⟩ := vs
    cases l with
    | nil => exact hvs.elim
    | cons u l =>
     cases l with
     | nil => exact ⟨u, rfl, hvs.1⟩
     | cons _ _ => exact hvs.2.elim
   obtain ⟨b, rfl, hb'⟩ := hrel
   subst hu
   have tx : (x.ev ρ).toNat = canon .f64 b := by rw [← hb']; rfl
   have hz : z.ev ρ = (fsqrt .f64 b : Nat) := by rw [h2]; simp only [List.map, opF_20, tx, fsqrt_canon]
   unfold CallOK
   rw [run_callFunc_extern hf hname hb hn he]
   rw [sqrt_at]
   cases hq : FloatKind.f64.format.sqrt b with
   | some r =>
    have hr0 : isN .f64 r = false := by
     unfold Format.sqrt at hq
     exact isN_map (fun d hd => root_notNaN hd) hq
    simp only [Sem.run_pure, Result.andThen]
    refine ⟨⟨r, rfl, ?_⟩, hwr⟩
    rw [canon_num hr0, hz]
    unfold fsqrt; rw [hq]; rfl
   | none =>
    have hrun : (do pure (.float .f64 (← choose (.nanBits .f64 b b))) : Sem Value).run P w = .ok (.float .f64 ((Question.nanBits .f64 b b).cut (w.tape w.drawn (.nanBits .f64 b b)))) (w.drewN 1) := by
     simp [Question.forced, World.drewN]
    simp only [hrun, Result.andThen]
    refine ⟨⟨_, rfl, ?_⟩, hwr.after ⟨rfl, rfl, rfl, Nat.le_refl _, fun _ _ => rfl⟩⟩
    rw [canon_nan (isN_nanBits _ _ _ _), hz]
    unfold fsqrt; rw [hq]; rfl
 · cases h
/-! ### math.archFloor, math.RoundToEven -/
theorem fint_canon (way : Toward) (x : Nat) : fint way (canon .f64 x) = fint way x := by
 unfold fint
 exact read_canon .f64 x (fun y => match y with | .nan _ _ => qn .f64 | y => Ieee.double.write (y.integral way)) (fun _ _ _ _ => rfl)
theorem isN_quiet {b : Nat} {s : Bool} {t : Nat} (h : FloatKind.f64.format.read b = .nan s t) : isN .f64 (FloatKind.f64.encode (.nan s (FloatKind.f64.format.quiet t))) = true := by
 have ht : t < 2 ^ 52 := by
  unfold Format.read at h
  have e1 : FloatKind.f64.format.signWeight = 9223372036854775808 := rfl
  have e2 : FloatKind.f64.format.binade = 4503599627370496 := rfl
  have e3 : FloatKind.f64.format.infRung = 9218868437227405312 := rfl
  simp only [e1, e2, e3] at h
  have hm : b % 9223372036854775808 < 9223372036854775808 := Nat.mod_lt _ (by omega)
  generalize b % 9223372036854775808 = r at h hm
  split at h
  · cases h
  · split at h
    · cases h
    · split at h
      · cases h
      · cases h; omega
 have hq : FloatKind.f64.format.quiet t = t ||| 2 ^ 51 := rfl
 have q1 : t ||| 2 ^ 51 < 2 ^ 52 := Nat.or_lt_two_pow ht (by decide)
 have q2 : 2 ^ 51 ≤ t ||| 2 ^ 51 := Nat.right_le_or
 rw [hq]
 generalize t ||| 2 ^ 51 = q at q1 q2
 show isN .f64 (FloatKind.f64.format.word s (FloatKind.f64.format.infRung + q % FloatKind.f64.format.binade)) = true
 have e1 : FloatKind.f64.format.signWeight = 9223372036854775808 := rfl
 have e2 : FloatKind.f64.format.binade = 4503599627370496 := rfl
 have e3 : FloatKind.f64.format.infRung = 9218868437227405312 := rfl
 have hw : FloatKind.f64.format.word s (FloatKind.f64.format.infRung + q % FloatKind.f64.format.binade) % 9223372036854775808 = 9218868437227405312 + q := by
  unfold Format.word
  rw [e1, e2, e3]
  cases s <;> simp <;> omega
 unfold isN Format.read
 simp only [e1, hw]
 rw [e2, e3, if_neg (by omega), if_neg (by omega), if_neg (by omega)]
 rfl
theorem integral_at (name : String) (way : Toward) (b : Nat) : Extern.MathFloor.toIntegral name way #[.float .f64 b] = (match FloatKind.f64.decode b with
  | .nan s t =>
   if FloatKind.f64.format.quiet t = t then pure (.float .f64 b) else do
   let kept ← choose (.extern "math.Floor,Ceil,Trunc,RoundToEven.signallingNaN kept" 2)
   pure (.float .f64 (if kept == 1 then b else FloatKind.f64.encode (.nan s (FloatKind.f64.format.quiet t))))
  | d => pure (.float .f64 (FloatKind.f64.encode (d.integral way)))) := rfl
theorem intS_ok {P : Program} {f : FuncId} {fn : Func} {n : Nat} {way : Toward} {name : String} (hop : ∀ x : Int, opF n [x] = ((fint way x.toNat : Nat) : Int)) (hf : P.funcs[f]? = some fn) (hname : (fn.name == "runtime.NumGoroutine") = false)
  (hb : fn.body.isNone = true) (hn : Extern.findNext fn = none) (he : Extern.find fn = some (Extern.MathFloor.toIntegral name way)) : SummOK P f (intS n) := by
 intro T st args T1 v h ρ hs
 unfold intS at h
 split at h
 · rename_i x
   obtain ⟨v', h', rfl⟩ := leafV_spec h
   obtain ⟨c, hr, rfl⟩ := resT_spec h'
   obtain ⟨z, hm, rfl⟩ := asFlt_spec hr
   obtain ⟨h1, h2⟩ := mk_spec hm hs
   refine ⟨h1, fun w0 μ nb bs vs w hfa _ hwr hvs => ?_⟩
   obtain ⟨u, hu, hrel⟩ : ∃ u, vs = #[u] ∧ (SV.w (.one (.flt .f64 x))).rel ρ μ u := by
    obtain ⟨l⟩ := vs
    cases l with
    | nil => exact hvs.elim
    | cons u l =>
     cases l with
     | nil => exact ⟨u, rfl, hvs.1⟩
     | cons _ _ => exact hvs.2.elim
   obtain ⟨b, rfl, hb'⟩ := hrel
   subst hu
   have tx : (x.ev ρ).toNat = canon .f64 b := by rw [← hb']; rfl
   have hz : z.ev ρ = (fint way b : Nat) := by rw [h2]; simp only [List.map, hop, tx, fint_canon]
   unfold CallOK
   rw [run_callFunc_extern hf hname hb hn he]
   rw [integral_at]
   have dec : FloatKind.f64.decode b = FloatKind.f64.format.read b := rfl
   have fb : fint way b = (match FloatKind.f64.format.read b with | .nan _ _ => qn .f64 | y => Ieee.double.write (y.integral way)) := rfl
   have later : ∀ k, WR ρ w0 μ nb bs (w.drewN k) := fun k => hwr.drewN k
   cases hq : FloatKind.f64.format.read b with
   | nan s t =>
    rw [hq] at fb
    have hbn : isN .f64 b = true := by rw [isN_eq, hq]; rfl
    simp only [dec, hq]
    by_cases hqt : FloatKind.f64.format.quiet t = t
    · rw [if_pos hqt]
      simp only [Sem.run_pure, Result.andThen]
      exact ⟨⟨b, rfl, by rw [canon_nan hbn, hz, fb]⟩, hwr⟩
    · have hrun : ∃ m k, (do
        let kept ← choose (.extern "math.Floor,Ceil,Trunc,RoundToEven.signallingNaN kept" 2)
        pure (.float .f64 (if kept == 1 then b else FloatKind.f64.encode (.nan s (FloatKind.f64.format.quiet t)))) : Sem Value).run P w = .ok (.float .f64 (if (m : Nat) == 1 then b else FloatKind.f64.encode (.nan s (FloatKind.f64.format.quiet t)))) (w.drewN k) := by
       refine ⟨(Question.extern "math.Floor,Ceil,Trunc,RoundToEven.signallingNaN kept" 2).cut (w.tape w.drawn (Question.extern "math.Floor,Ceil,Trunc,RoundToEven.signallingNaN kept" 2)), 1, ?_⟩
       simp [Question.forced, World.drewN]
      obtain ⟨m, k, hrun⟩ := hrun
      rw [if_neg hqt]
      simp only [hrun, Result.andThen]
      refine ⟨⟨_, rfl, ?_⟩, later k⟩
      rw [canon_nan (by split; exact hbn; exact isN_quiet hq), hz, fb]
   | infinity s =>
    rw [hq] at fb
    simp only [dec, hq, Sem.run_pure, Result.andThen]
    refine ⟨⟨_, rfl, ?_⟩, hwr⟩
    show (canon .f64 (FloatKind.f64.format.write (.infinity s)) : Int) = _
    rw [canon_num (isN_write .f64 (d := .infinity s) rfl), hz, fb]; rfl
   | number s m e =>
    rw [hq] at fb
    simp only [dec, hq, Sem.run_pure, Result.andThen]
    refine ⟨⟨_, rfl, ?_⟩, hwr⟩
    show (canon .f64 (FloatKind.f64.format.write ((Datum.number s m e).integral way)) : Int) = _
    rw [canon_num (isN_write .f64 (d := (Datum.number s m e).integral way) rfl), hz, fb]; rfl
 · cases h
theorem archFloor_ok {P : Program} {f : FuncId} {fn : Func} (hf : P.funcs[f]? = some fn) (hname : (fn.name == "runtime.NumGoroutine") = false)
  (hb : fn.body.isNone = true) (hn : Extern.findNext fn = none) (he : Extern.find fn = some (Extern.MathFloor.toIntegral "math.archFloor" .down)) : SummOK P f (intS 23) :=
 intS_ok (fun x => opF_23 x) hf hname hb hn he
theorem roundEven_ok {P : Program} {f : FuncId} {fn : Func} (hf : P.funcs[f]? = some fn) (hname : (fn.name == "runtime.NumGoroutine") = false)
  (hb : fn.body.isNone = true) (hn : Extern.findNext fn = none) (he : Extern.find fn = some (Extern.MathFloor.toIntegral "math.RoundToEven" .even)) : SummOK P f (intS 24) :=
 intS_ok (fun x => opF_24 x) hf hname hb hn he
/-! ### The bits of a number -/
theorem one_arg {ρ : Nat → Int} {μ : Mu} {c : SV} {vs : Array Value} (hvs : svsRel ρ μ [c] vs.toList) : ∃ u, vs = #[u] ∧ c.rel ρ μ u := by
 obtain ⟨l⟩ := vs
 cases l with
 | nil => exact hvs.elim
 | cons u l =>
  cases l with
  | nil => exact ⟨u, rfl, hvs.1⟩
  | cons _ _ => exact hvs.2.elim
theorem fromBits64_at (n : Int) : Extern.MathFloatBits.float64frombits #[.int .u64 n] = pure (.float .f64 n.toNat) := rfl
theorem fromBits32_at (n : Int) : Extern.MathFloatBits.float32frombits #[.int .u32 n] = pure (.float .f32 n.toNat) := rfl
theorem bits64_at (b : Nat) : Extern.MathFloatBits.float64bits #[.float .f64 b] = pure (.int .u64 b) := rfl
theorem bits32_at (b : Nat) : Extern.MathFloatBits.float32bits #[.float .f32 b] = pure (.int .u32 b) := rfl
theorem fromBits_gen {P : Program} {f : FuncId} {fn : Func} {k : FloatKind} {e : Array Value → Sem Value} (hat : ∀ n : Int, e #[.int (bitsK k) n] = pure (.float k n.toNat)) (hf : P.funcs[f]? = some fn) (hname : (fn.name == "runtime.NumGoroutine") = false)
  (hb : fn.body.isNone = true) (hn : Extern.findNext fn = none) (he : Extern.find fn = some e) : SummOK P f (fromBitsS k) := by
 intro T st args T1 v h ρ hs
 unfold fromBitsS at h
 split at h
 · rename_i k' n
   split at h
   · rename_i hk; subst hk
     cases h
     refine ⟨hs, fun w0 μ nb bs vs w hfa _ hwr hvs => ?_⟩
     obtain ⟨u, hu, hrel⟩ := one_arg hvs
     have eu : u = .int (bitsK k) n := hrel
     subst eu hu
     unfold CallOK
     rw [run_callFunc_extern hf hname hb hn he, hat]
     simp only [Sem.run_pure, Result.andThen]
     exact ⟨⟨_, rfl, rfl⟩, hwr⟩
   · cases h
 · rename_i k' x
   split at h
   · rename_i hk; subst hk
     cases h
     refine ⟨hs, fun w0 μ nb bs vs w hfa _ hwr hvs => ?_⟩
     obtain ⟨u, hu, n, eu, hn'⟩ := one_arg hvs
     subst eu hu
     unfold CallOK
     rw [run_callFunc_extern hf hname hb hn he, hat]
     simp only [Sem.run_pure, Result.andThen]
     exact ⟨⟨n, rfl, hn'⟩, hwr⟩
   · cases h
 · cases h
theorem toBits_gen {P : Program} {f : FuncId} {fn : Func} {k : FloatKind} {e : Array Value → Sem Value} (hat : ∀ b : Nat, e #[.float k b] = pure (.int (bitsK k) b)) (hf : P.funcs[f]? = some fn) (hname : (fn.name == "runtime.NumGoroutine") = false)
  (hb : fn.body.isNone = true) (hn : Extern.findNext fn = none) (he : Extern.find fn = some e) : SummOK P f (toBitsS k) := by
 intro T st args T1 v h ρ hs
 unfold toBitsS at h
 split at h
 · rename_i k' x
   split at h
   · rename_i hk; subst hk
     cases h
     refine ⟨hs, fun w0 μ nb bs vs w hfa _ hwr hvs => ?_⟩
     obtain ⟨u, hu, b, eu, hb'⟩ := one_arg hvs
     subst eu hu
     unfold CallOK
     rw [run_callFunc_extern hf hname hb hn he, hat]
     simp only [Sem.run_pure, Result.andThen]
     exact ⟨⟨b, rfl, hb'⟩, hwr⟩
   · cases h
 · cases h
theorem fromBits64_ok {P : Program} {f : FuncId} {fn : Func} (hf : P.funcs[f]? = some fn) (hname : (fn.name == "runtime.NumGoroutine") = false)
  (hb : fn.body.isNone = true) (hn : Extern.findNext fn = none) (he : Extern.find fn = some Extern.MathFloatBits.float64frombits) : SummOK P f (fromBitsS .f64) := fromBits_gen fromBits64_at hf hname hb hn he
theorem fromBits32_ok {P : Program} {f : FuncId} {fn : Func} (hf : P.funcs[f]? = some fn) (hname : (fn.name == "runtime.NumGoroutine") = false)
  (hb : fn.body.isNone = true) (hn : Extern.findNext fn = none) (he : Extern.find fn = some Extern.MathFloatBits.float32frombits) : SummOK P f (fromBitsS .f32) := fromBits_gen fromBits32_at hf hname hb hn he
theorem toBits64_ok {P : Program} {f : FuncId} {fn : Func} (hf : P.funcs[f]? = some fn) (hname : (fn.name == "runtime.NumGoroutine") = false)
  (hb : fn.body.isNone = true) (hn : Extern.findNext fn = none) (he : Extern.find fn = some Extern.MathFloatBits.float64bits) : SummOK P f (toBitsS .f64) := toBits_gen bits64_at hf hname hb hn he
theorem toBits32_ok {P : Program} {f : FuncId} {fn : Func} (hf : P.funcs[f]? = some fn) (hname : (fn.name == "runtime.NumGoroutine") = false)
  (hb : fn.body.isNone = true) (hn : Extern.findNext fn = none) (he : Extern.find fn = some Extern.MathFloatBits.float32bits) : SummOK P f (toBitsS .f32) := toBits_gen bits32_at hf hname hb hn he
end Go.Sx

namespace Go.Sx
noncomputable section
open Go.RowKit
def kindsOK : List Kd → List SC → Bool
 | [], [] => true
 | .int k :: l, .int k' _ :: m => kindsY k k' && kindsOK l m
 | .flt k :: l, .flt k' _ :: m => fKinds k k' && kindsOK l m
 | .bool :: l, .bool _ :: m => kindsOK l m
 | _, _ => false
theorem fKinds_eq {k k' : FloatKind} (h : fKinds k k' = true) : k = k' := by cases k <;> cases k' <;> first | rfl | cases h
theorem kindsOK_ms {ρ : Nat → Int} {μ : Mu} : ∀ {l : List Kd} {m : List SC} {vs : List Value}, kindsOK l m = true → cellsRel ρ μ m vs → Ms l vs
 | [], [], [], _, _ => trivial
 | [], [], _ :: _, _, h => h.elim
 | k :: l, c :: m, [], _, h => h.elim
 | k :: l, c :: m, v :: vs, hk, h => by
  unfold kindsOK at hk
  split at hk
  · rename_i e1 e2; cases e1
  · rename_i e1 e2; cases e1; cases e2
    simp only [Bool.and_eq_true] at hk
    rw [kindsY_eq, decide_eq_true_eq] at hk
    obtain ⟨rfl, hk⟩ := hk
    exact ⟨⟨_, h.1⟩, kindsOK_ms hk h.2⟩
  · rename_i e1 e2; cases e1; cases e2
    simp only [Bool.and_eq_true] at hk
    have := fKinds_eq hk.1
    subst this
    obtain ⟨b, e, _⟩ := h.1
    exact ⟨⟨b, e⟩, kindsOK_ms hk.2 h.2⟩
  · rename_i e1 e2; cases e1; cases e2
    exact ⟨⟨_, h.1⟩, kindsOK_ms hk h.2⟩
  · cases hk
 | [], _ :: _, _, hk, _ => by cases hk
 | k :: _, [], _, hk, _ => by cases k <;> cases hk
theorem back_rel {ρ ρ' : Nat → Int} {μ μ' μ2 : Mu} : ∀ {l : List Kd} {m : List SC} {vs vs' : List Value} {i : Nat}, kindsOK l m = true → cellsRel ρ μ m vs →
  (∀ j v, vs[j]? = some v → ρ' (i + j) = inOf v) → cellsRel ρ' μ' (symL i l) vs' → cellsRel ρ μ2 m vs'
 | [], [], [], [], _, _, _, _, _ => trivial
 | [], [], _ :: _, _, _, _, h, _, _ => h.elim
 | [], [], [], _ :: _, _, _, _, _, h => h.elim
 | k :: l, c :: m, [], _, _, _, h, _, _ => h.elim
 | k :: l, c :: m, v :: vs, [], _, _, _, _, h => h.elim
 | k :: l, c :: m, v :: vs, v' :: vs', i, hk, h, hr, h' => by
  have hr0 : ρ' i = inOf v := by have := hr 0 v rfl; simpa using this
  have hrs : ∀ j u, vs[j]? = some u → ρ' (i + 1 + j) = inOf u := fun j u hj => by
   rw [show i + 1 + j = i + (j + 1) by omega]
   exact hr (j + 1) u (by simpa using hj)
  unfold kindsOK at hk
  split at hk
  · rename_i e1 e2; cases e1
  · rename_i k k' _ e1 e2; cases e1; cases e2
    simp only [Bool.and_eq_true] at hk
    rw [kindsY_eq, decide_eq_true_eq] at hk
    obtain ⟨rfl, hk⟩ := hk
    refine ⟨?_, back_rel hk h.2 hrs h'.2⟩
    have e1 : v = .int _ _ := h.1
    have e2 : v' = .int _ (ρ' i) := h'.1
    rw [hr0, e1] at e2
    exact e2
  · rename_i k k' _ e1 e2; cases e1; cases e2
    simp only [Bool.and_eq_true] at hk
    have := fKinds_eq hk.1
    subst this
    refine ⟨?_, back_rel hk.2 h.2 hrs h'.2⟩
    obtain ⟨b, e, hb⟩ := h.1
    obtain ⟨b', e', hb'⟩ := h'.1
    refine ⟨b', e', ?_⟩
    rw [hb']
    show ρ' i = _
    rw [hr0, e]
    exact hb
  · rename_i _ e1 e2; cases e1; cases e2
    refine ⟨?_, back_rel hk h.2 hrs h'.2⟩
    have e1 : v = .bool _ := h.1
    have e2 : v' = .bool (ρ' i == 1) := h'.1
    rw [hr0, e1] at e2
    show v' = .bool _
    rw [e2]
    show Value.bool (b2i _ == 1) = _
    rw [b2i_eq]
  · cases hk
 | [], _ :: _, _, _, _, hk, _, _, _ => by cases hk
 | k :: _, [], _, _, _, hk, _, _, _ => by cases k <;> cases hk
def idRun (Γ : Ctx) (F : Func) (l : List Kd) : Bool :=
 match runF Γ F [.agg l] with
 | some (T, .leaf e st) =>
  match goodTab (sizeA [.agg l]) T with
  | true =>
   match leafRes Γ F e st with
   | some v => svBeq v (.w (.agg (symL 0 l)))
   | none => false
  | false => false
 | _ => false
def idS (l : List Kd) : Summ := fun T _ args =>
 match args with
 | [.w (.agg m)] =>
  match kindsOK l m with
  | true => some (T, .leaf (.w (.agg m)))
  | false => none
 | _ => none
theorem callOK_of {P : Program} {Γ : Ctx} (hΓ : Γ.ok P) {f : Nat} {F : Func} (hF : P.funcs[f]? = some F) (hname : (F.name == "runtime.NumGoroutine") = false) {c : Code} (hb : F.body = some c) {vs : Array Value} {w : World} {R : Value → World → Prop}
  (h : Calls P f vs w fun e w' => ∃ v, e = .returned v ∧ R v w') : CallOK P f vs w R := by
 have : (callFunc f vs).run P w = .ok (.enter f vs) w := by
  simp only [callFunc, Sem.run_bind, run_program, Result.andThen_ok, hF]
  rw [hname]
  simp [hb]
 unfold CallOK
 rw [this]
 exact h
theorem idS_ok {P : Program} {Γ : Ctx} (hΓ : Γ.ok P) (hsum : ∀ f s, Γ.summ f = some s → SummOK P f s) {f : Nat} {F : Func} (hF : P.funcs[f]? = some F) (hname : (F.name == "runtime.NumGoroutine") = false) {l : List Kd}
  (hrun : idRun Γ F l = true) : SummOK P f (idS l) := by
 intro T st args T1 v h ρ hs
 unfold idS at h
 split at h
 case h_2 => cases h
 rename_i m
 split at h
 case h_2 => cases h
 rename_i hk
 cases h
 refine ⟨hs, fun w0 μ nb bs vs w hfa _ hwr hvs => ?_⟩
 obtain ⟨u, hu, hrel⟩ : ∃ u, vs = #[u] ∧ (SV.w (.agg m)).rel ρ μ u := by
  obtain ⟨vl⟩ := vs
  cases vl with
  | nil => exact hvs.elim
  | cons u vl =>
   cases vl with
   | nil => exact ⟨u, rfl, hvs.1⟩
   | cons _ _ => exact hvs.2.elim
 subst hu
 obtain ⟨cs, rfl, hcs⟩ := hrel
 have hms := kindsOK_ms hk hcs
 unfold idRun at hrun
 split at hrun
 case h_2 => cases hrun
 rename_i T2 e st hr
 split at hrun
 case h_2 => cases hrun
 rename_i hg
 split at hrun
 case h_2 => cases hrun
 rename_i v2 hv2
 have hv2e := svBeq_eq hrun
 subst hv2e
 unfold runF at hr
 split at hr
 case h_2 => cases hr
 rename_i c hb
 rw [yExec_eq] at hr
 have hvs' : As [.agg l] [Value.agg cs] := ⟨⟨cs, rfl, hms⟩, trivial⟩
 obtain ⟨ρ', hin, hs'⟩ := exists_rho hg (fun r => ((flat [.agg l] [Value.agg cs])[r]?.map inOf).getD 0)
 have hfl := flat_length hvs'
 have hrel : svsRel ρ' (fun _ => none) (symA 0 [.agg l]) [Value.agg cs] := symA_rel hvs' fun j v hj => by
  have hlt := (List.getElem?_eq_some_iff.1 hj).1
  rw [Nat.zero_add, hin j (by omega), hj]; rfl
 obtain ⟨_, hwp⟩ := exec_sound (ρ := ρ') hΓ hsum 400 _ _ _ _ _ hr hs'
 have hfr := frame_enter (vs := #[Value.agg cs]) hrel F.ntmps
 rw [symA_length] at hfr
 refine callOK_of hΓ hF hname hb (calls_of_wp hF hb (hwp (Base.all w hwr.tabs) (fun _ => none) _ w _ ⟨rfl, hfr, WR.none w _, (fun r b h => by cases h)⟩ ?_))
 obtain ⟨he, hv', hvn⟩ := leafRes_spec hv2
 intro μ' a' w' hp hw'
 obtain ⟨x, hx, hxr⟩ := resultsS_sound hΓ hv' hw'
 have fin : bodyPost P F (fun e w2 => ∃ v, e = .returned v ∧ (SV.w (.agg m)).rel ρ μ v ∧ WR ρ w0 μ nb bs w2) .ret a' w' := by
  refine ⟨hw'.defers, x, hx, x, rfl, ?_, hwr.after hw'.wr.kept.below⟩
  obtain ⟨cs', rfl, hcs'⟩ := hxr
  refine ⟨cs', rfl, back_rel (i := 0) hk hcs (fun j v hj => ?_) hcs'⟩
  have hlt : j < cs.toList.length := (List.getElem?_eq_some_iff.1 hj).1
  have e0 : flat [.agg l] [Value.agg cs] = cs.toList := by
   show (Value.agg cs).cells.toList ++ [] = cs.toList
   rw [List.append_nil]; rfl
  rw [Nat.zero_add, hin j (by rw [← hfl, e0]; exact hlt), e0, hj]; rfl
 rcases he with rfl | rfl <;> exact fin
theorem bodyPost_mono {P : Program} {F : Func} {R R' : Ending → World → Prop} (h : ∀ x w, R x w → R' x w) {e : Exit} {a : Act} {w : World} (hb : bodyPost P F R e a w) : bodyPost P F R' e a w := by
 cases e <;> simp only [bodyPost] at hb ⊢
 · obtain ⟨h1, v, h2, h3⟩ := hb; exact ⟨h1, v, h2, h _ _ h3⟩
 all_goals first | exact hb.elim | exact ⟨hb.1, h _ _ hb.2⟩ | exact h _ _ hb | (obtain ⟨h1, v, h2, h3⟩ := hb; exact ⟨h1, v, h2, h _ _ h3⟩)
def sameRun (Γ : Ctx) (F : Func) (k : FloatKind) : Bool :=
 match F.body with
 | some c =>
  match (yExec Γ 400 c).f ⟨1, .nil, .nil⟩ ⟨2 + (F.ntmps - 2), frameOf 0 [.c (.flt k (.reg 0)), .c (.flt k (.reg 0))], 0, .nil, .nil⟩ with
  | some (T, t) => match goodTab 1 T with
   | true => allTrue Γ F T t
   | false => false
  | none => false
 | none => false
def sameS (k : FloatKind) : Summ := fun T _ args =>
 match args with
 | [.w (.one (.flt k1 x)), .w (.one (.flt k2 y))] =>
  match fKinds k k1 && (fKinds k k2 && x.beq y) with
  | true => some (T, .leaf (.c (.bool (.lit 1))))
  | false => none
 | _ => none
theorem sameS_ok {P : Program} {Γ : Ctx} (hΓ : Γ.ok P) (hsum : ∀ f s, Γ.summ f = some s → SummOK P f s) {f : Nat} {F : Func} (hF : P.funcs[f]? = some F) (hname : (F.name == "runtime.NumGoroutine") = false) {k : FloatKind}
  (hrun : sameRun Γ F k = true) : SummOK P f (sameS k) := by
 intro T st args T1 v h ρ hs
 unfold sameS at h
 split at h
 case h_2 => cases h
 rename_i k1 x k2 y
 split at h
 case h_2 => cases h
 rename_i hk
 cases h
 simp only [Bool.and_eq_true] at hk
 obtain ⟨hk1, hk2, hxy⟩ := hk
 have e1 := fKinds_eq hk1
 have e2 := fKinds_eq hk2
 have e3 := X.beq_eq hxy
 subst e1 e2 e3
 refine ⟨hs, fun w0 μ nb bs vs w hfa _ hwr hvs => ?_⟩
 obtain ⟨u1, u2, hu, hr1, hr2⟩ : ∃ u1 u2, vs = #[u1, u2] ∧ (SV.w (.one (.flt k x))).rel ρ μ u1 ∧ (SV.w (.one (.flt k x))).rel ρ μ u2 := by
  obtain ⟨vl⟩ := vs
  match vl, hvs with
  | [u1, u2], h => exact ⟨u1, u2, rfl, h.1, h.2.1⟩
  | [], h => exact h.elim
  | [_], h => exact h.2.elim
  | _ :: _ :: _ :: _, h => exact h.2.2.elim
 subst hu
 obtain ⟨b1, rfl, hb1⟩ := hr1
 obtain ⟨b2, rfl, hb2⟩ := hr2
 unfold sameRun at hrun
 split at hrun
 case h_2 => cases hrun
 rename_i c hb
 split at hrun
 case h_2 => cases hrun
 rename_i T2 t hr
 split at hrun
 case h_2 => cases hrun
 rename_i hg
 rw [yExec_eq] at hr
 obtain ⟨ρ', hin, hs'⟩ := exists_rho hg (fun _ => (canon k b1 : Int))
 have h0 : ρ' 0 = canon k b1 := hin 0 (by omega)
 have hrel : svsRel ρ' (fun _ => none) [.c (.flt k (.reg 0)), .c (.flt k (.reg 0))] [Value.float k b1, Value.float k b2] :=
  ⟨⟨b1, rfl, by rw [show (X.reg 0).ev ρ' = ρ' 0 from rfl, h0]⟩, ⟨b2, rfl, by rw [show (X.reg 0).ev ρ' = ρ' 0 from rfl, h0, hb1, hb2]⟩, trivial⟩
 obtain ⟨_, hwp⟩ := exec_sound (ρ := ρ') hΓ hsum 400 _ _ _ _ _ hr hs'
 have hfr := frame_enter (vs := #[Value.float k b1, Value.float k b2]) hrel F.ntmps
 refine callOK_of hΓ hF hname hb (calls_of_wp hF hb (hwp (Base.all w hwr.tabs) (fun _ => none) _ w _ ⟨rfl, hfr, WR.none w _, (fun r b h => by cases h)⟩ ?_))
 have hA := allTrue_sat hΓ hs' w hwr.tabs hrun
 refine Tree.sat_mono (fun e st hL μ' a' w' hp hw' => ?_) hA
 have := hL μ' a' w' hp hw'
 exact bodyPost_mono (fun e' w'' he => by obtain ⟨he, hbel⟩ := he; exact ⟨_, he, rfl, hwr.after hbel⟩) this
end
end Go.Sx

namespace Go.Sx
noncomputable section
open Go.RowKit
structure Sm where
 ds : List (Nat × D)
 vt : VT
def q1 (r f a : Nat) : Nat × D := (r, ⟨f, [.reg a]⟩)
def q2 (r f a b : Nat) : Nat × D := (r, ⟨f, [.reg a, .reg b]⟩)
def q3 (r f a b c : Nat) : Nat × D := (r, ⟨f, [.reg a, .reg b, .reg c]⟩)
/-! ### Arguments put in -/
def instX (σ : Tr X) : X → Option X
 | .lit n => some (.lit n)
 | .reg r => σ.get r
def instXs (σ : Tr X) : List X → Option (List X)
 | [] => some []
 | x :: l =>
  match instX σ x with
  | some y => match instXs σ l with
   | some m => some (y :: m)
   | none => none
  | none => none
def instDs : List (Nat × D) → Tr X → Tab → Option (Tab × Tr X)
 | [], σ, T => some (T, σ)
 | (r, d) :: l, σ, T =>
  match instXs σ d.a with
  | some a =>
   match mk T d.f a with
   | some (T1, x) => instDs l (σ.set fuelT r x) T1
   | none => none
  | none => none
def instC (σ : Tr X) : SC → Option SC
 | .bool x => match instX σ x with | some y => some (.bool y) | none => none
 | .int k x => match instX σ x with | some y => some (.int k y) | none => none
 | .flt k x => match instX σ x with | some y => some (.flt k y) | none => none
 | _ => none
def instCs (σ : Tr X) : List SC → Option (List SC)
 | [] => some []
 | c :: l =>
  match instC σ c with
  | some d => match instCs σ l with
   | some m => some (d :: m)
   | none => none
  | none => none
def instW (σ : Tr X) : SW → Option SW
 | .one c => match instC σ c with | some d => some (.one d) | none => none
 | .agg l => match instCs σ l with | some m => some (.agg m) | none => none
def instWs (σ : Tr X) : List SW → Option (List SW)
 | [] => some []
 | c :: l =>
  match instW σ c with
  | some d => match instWs σ l with
   | some m => some (d :: m)
   | none => none
  | none => none
def instV (σ : Tr X) : SV → Option SV
 | .w c => match instW σ c with | some d => some (.w d) | none => none
 | .tup l => match instWs σ l with | some m => some (.tup m) | none => none
 | .un => none
def instVT (σ : Tr X) (fa : Tr Bool) (T : Tab) : VT → Option VT
 | .leaf v => match instV σ v with | some u => some (.leaf u) | none => none
 | .node r a b =>
  match σ.get r with
  | some x =>
   match decideX T fa x with
   | .known true => instVT σ fa T a
   | .known false => instVT σ fa T b
   | _ =>
    match x with
    | .reg q =>
     match instVT σ fa T a with
     | some a' => match instVT σ fa T b with
      | some b' => some (.node q a' b')
      | none => none
     | none => none
    | .lit _ => none
  | none => none
def cellX : SC → X
 | .bool x => x
 | .int _ x => x
 | .flt _ x => x
 | _ => .lit 0
def argX : AK → SV → Option (List X)
 | .one k, .w (.one c) => match kindsOK [k] [c] with | true => some [cellX c] | false => none
 | .agg l, .w (.agg m) => match kindsOK l m with | true => some (m.map cellX) | false => none
 | _, _ => none
def argsX : List AK → List SV → Option (List X)
 | [], [] => some []
 | k :: l, v :: m =>
  match argX k v with
  | some x => match argsX l m with
   | some y => some (x ++ y)
   | none => none
  | none => none
 | _, _ => none
def putsX : List X → Nat → Tr X → Tr X
 | [], _, σ => σ
 | x :: l, i, σ => putsX l (i + 1) (σ.set fuelT i x)
def smS (S : Sm) (ks : List AK) : Summ := fun T st args =>
 match argsX ks args with
 | some xs =>
  match instDs S.ds (putsX xs 0 .nil) T with
  | some (T1, σ) =>
   match instVT σ st.fa T1 S.vt with
   | some vt => some (T1, vt)
   | none => none
  | none => none
 | none => none
/-! ### The check -/
def vtBeq : VT → VT → Bool
 | .leaf v, .leaf u => svBeq v u
 | .node r a b, .node q c d => Nat.beq r q && (vtBeq a c && vtBeq b d)
 | _, _ => false
def dsOK (T : Tab) : List (Nat × D) → Bool
 | [] => true
 | (r, d) :: l =>
  match T.defs.get r with
  | some e => d.beq e && dsOK T l
  | none => false
def smRun (Γ : Ctx) (F : Func) (ks : List AK) (S : Sm) : Bool :=
 match runF Γ F ks with
 | some (T, t) =>
  match goodTab (sizeA ks) T, dsOK T S.ds, Nat.blt (sizeA ks) maxReg with
  | true, true, true =>
   match vtree T (leafRes Γ F) t with
   | some vt => vtBeq vt S.vt
   | none => false
  | _, _, _ => false
 | none => false
/-! ### It is kept -/
theorem vtBeq_eq : ∀ {a b : VT}, vtBeq a b = true → a = b
 | .leaf v, .leaf u, h => by rw [svBeq_eq h]
 | .node r a b, .node q c d, h => by
  simp only [vtBeq, Bool.and_eq_true] at h
  rw [Nat.eq_of_beq_eq_true h.1, vtBeq_eq h.2.1, vtBeq_eq h.2.2]
 | .leaf _, .node _ _ _, h => by cases h
 | .node _ _ _, .leaf _, h => by cases h
theorem dsOK_spec {T : Tab} : ∀ {l : List (Nat × D)}, dsOK T l = true → ∀ r d, (r, d) ∈ l → T.defs.get r = some d
 | [], _, _, _, h => by cases h
 | (q, e) :: l, hk, r, d, h => by
  unfold dsOK at hk
  split at hk
  · rename_i e' he
    simp only [Bool.and_eq_true] at hk
    cases h with
    | head => rw [he, D.beq_eq hk.1]
    | tail _ h => exact dsOK_spec hk.2 r d h
  · cases hk
def Stands (ρ ρ' : Nat → Int) (σ : Tr X) : Prop := ∀ r x, σ.get r = some x → x.ev ρ = ρ' r
section
variable {ρ ρ' : Nat → Int} {σ : Tr X}
theorem instX_spec (h : Stands ρ ρ' σ) {x y : X} (hx : instX σ x = some y) : y.ev ρ = x.ev ρ' := by
 cases x with
 | lit n => cases hx; rfl
 | reg r => exact h r y hx
theorem instXs_spec (h : Stands ρ ρ' σ) : ∀ {l m : List X}, instXs σ l = some m → m.map (X.ev ρ) = l.map (X.ev ρ')
 | [], m, hx => by cases hx; rfl
 | x :: l, m, hx => by
  unfold instXs at hx
  split at hx
  · rename_i y hy
    split at hx
    · rename_i m' hm
      cases hx
      simp only [List.map_cons]
      rw [instX_spec h hy, instXs_spec h hm]
    · cases hx
  · cases hx
theorem instDs_spec {T0 : Tab} (hs' : Sat ρ' T0) : ∀ (l : List (Nat × D)) (σ σ' : Tr X) (T T' : Tab), (∀ r d, (r, d) ∈ l → T0.defs.get r = some d) → instDs l σ T = some (T', σ') → Sat ρ T' →
  Sat ρ T ∧ (Stands ρ ρ' σ → Stands ρ ρ' σ')
 | [], σ, σ', T, T', _, h, hs => by cases h; exact ⟨hs, fun h => h⟩
 | (r, d) :: l, σ, σ', T, T', hd, h, hs => by
  unfold instDs at h
  split at h
  · rename_i a ha
    split at h
    · rename_i T1 x hm
      obtain ⟨s1, k1⟩ := instDs_spec hs' l _ _ _ _ (fun r d h => hd r d (List.mem_cons_of_mem _ h)) h hs
      obtain ⟨s0, e⟩ := mk_spec hm s1
      refine ⟨s0, fun hst => k1 fun q y hq => ?_⟩
      rcases Tr.get_set_some _ _ _ _ _ _ hq with ⟨rfl, rfl⟩ | ⟨_, hq'⟩
      · rw [e, instXs_spec hst ha]
        exact (hs' _ _ (hd _ _ List.mem_cons_self)).symm
      · exact hst q y hq'
    · cases h
  · cases h
theorem instC_rel (h : Stands ρ ρ' σ) {c d : SC} (hc : instC σ c = some d) {μ μ' : Mu} {v : Value} (hv : c.rel ρ' μ' v) : d.rel ρ μ v := by
 unfold instC at hc
 split at hc
 · split at hc
   · rename_i y hy
     cases hc
     have hv : v = .bool _ := hv
     show v = .bool _
     rw [hv, instX_spec h hy]
   · cases hc
 · split at hc
   · rename_i y hy
     cases hc
     have hv : v = .int _ _ := hv
     show v = .int _ _
     rw [hv, instX_spec h hy]
   · cases hc
 · split at hc
   · rename_i y hy
     cases hc
     obtain ⟨b, e, hb⟩ := hv
     exact ⟨b, e, by rw [hb, instX_spec h hy]⟩
   · cases hc
 · cases hc
theorem instCs_rel (h : Stands ρ ρ' σ) {μ μ' : Mu} : ∀ {l m : List SC} {vs : List Value}, instCs σ l = some m → cellsRel ρ' μ' l vs → cellsRel ρ μ m vs
 | [], m, vs, hc, hv => by cases hc; cases vs <;> first | trivial | exact hv.elim
 | c :: l, m, [], hc, hv => hv.elim
 | c :: l, m, v :: vs, hc, hv => by
  unfold instCs at hc
  split at hc
  · rename_i d hd
    split at hc
    · rename_i m' hm
      cases hc
      exact ⟨instC_rel h hd hv.1, instCs_rel h hm hv.2⟩
    · cases hc
  · cases hc
theorem instW_rel (h : Stands ρ ρ' σ) {μ μ' : Mu} {c d : SW} (hc : instW σ c = some d) {v : Value} (hv : c.rel ρ' μ' v) : d.rel ρ μ v := by
 cases c with
 | one c =>
  unfold instW at hc
  dsimp only at hc
  split at hc
  · rename_i e he; cases hc; exact instC_rel (μ := μ) h he hv
  · cases hc
 | agg l =>
  unfold instW at hc
  dsimp only at hc
  split at hc
  · rename_i m hm
    cases hc
    obtain ⟨cs, e, hv⟩ := hv
    exact ⟨cs, e, instCs_rel h hm hv⟩
  · cases hc
theorem instWs_rel (h : Stands ρ ρ' σ) {μ μ' : Mu} : ∀ {l m : List SW} {vs : List Value}, instWs σ l = some m → swsRel ρ' μ' l vs → swsRel ρ μ m vs
 | [], m, vs, hc, hv => by cases hc; cases vs <;> first | trivial | exact hv.elim
 | c :: l, m, [], hc, hv => hv.elim
 | c :: l, m, v :: vs, hc, hv => by
  unfold instWs at hc
  split at hc
  · rename_i d hd
    split at hc
    · rename_i m' hm
      cases hc
      exact ⟨instW_rel h hd hv.1, instWs_rel h hm hv.2⟩
    · cases hc
  · cases hc
theorem instV_rel (h : Stands ρ ρ' σ) {μ μ' : Mu} {c d : SV} (hc : instV σ c = some d) {v : Value} (hv : c.rel ρ' μ' v) : d.rel ρ μ v := by
 cases c with
 | un => cases hc
 | w c =>
  unfold instV at hc
  dsimp only at hc
  split at hc
  · rename_i e he; cases hc; exact instW_rel (μ := μ) h he hv
  · cases hc
 | tup l =>
  unfold instV at hc
  dsimp only at hc
  split at hc
  · rename_i m hm
    cases hc
    obtain ⟨cs, e, hv⟩ := hv
    exact ⟨cs, e, instWs_rel h hm hv⟩
  · cases hc
theorem instVT_rel (h : Stands ρ ρ' σ) {T : Tab} (hs : Sat ρ T) {fa : Tr Bool} (hf : Facts ρ fa) {μ μ' : Mu} {v : Value} : ∀ {a b : VT}, instVT σ fa T a = some b → (a.pick ρ').rel ρ' μ' v → (b.pick ρ).rel ρ μ v
 | .leaf u, b, hc, hv => by
  unfold instVT at hc
  split at hc
  · rename_i w hw; cases hc; exact instV_rel h hw hv
  · cases hc
 | .node r a1 a2, b, hc, hv => by
  unfold instVT at hc
  split at hc
  · rename_i x hx
    have e := h r x hx
    have hd := decideX_spec hs hf x
    unfold VT.pick at hv
    split at hc
    · rename_i hk
      rw [hk] at hd
      have hd : (x.ev ρ == 1) = true := hd
      rw [e] at hd
      rw [if_pos (by simpa using hd)] at hv
      exact instVT_rel h hs hf hc hv
    · rename_i hk
      rw [hk] at hd
      have hd : (x.ev ρ == 1) = false := hd
      rw [e] at hd
      rw [if_neg (by simpa using hd)] at hv
      exact instVT_rel h hs hf hc hv
    · split at hc
      · rename_i q _ _
        split at hc
        · rename_i a' ha
          split at hc
          · rename_i b' hb
            cases hc
            have e : ρ q = ρ' r := e
            unfold VT.pick
            rw [e]
            split
            · rename_i hr; rw [if_pos hr] at hv; exact instVT_rel h hs hf ha hv
            · rename_i hr; rw [if_neg hr] at hv; exact instVT_rel h hs hf hb hv
          · cases hc
        · cases hc
      · cases hc
  · cases hc
theorem putsX_get : ∀ (l : List X) (i : Nat) (σ : Tr X) (r : Nat) (x : X), (putsX l i σ).get r = some x → (∃ j, r = i + j ∧ l[j]? = some x) ∨ σ.get r = some x
 | [], _, _, _, _, h => .inr h
 | y :: l, i, σ, r, x, h => by
  unfold putsX at h
  rcases putsX_get l (i + 1) _ r x h with ⟨j, e, hj⟩ | h
  · exact .inl ⟨j + 1, by omega, by simpa using hj⟩
  · rcases Tr.get_set_some _ _ _ _ _ _ h with ⟨rfl, rfl⟩ | ⟨_, h⟩
    · exact .inl ⟨0, by omega, rfl⟩
    · exact .inr h
theorem symL_at {μ μ' : Mu} : ∀ {l : List Kd} {m : List SC} {vs : List Value} {i : Nat}, kindsOK l m = true → cellsRel ρ μ m vs → (∀ j x, (m.map cellX)[j]? = some x → ρ' (i + j) = x.ev ρ) → cellsRel ρ' μ' (symL i l) vs
 | [], [], [], _, _, _, _ => trivial
 | [], [], _ :: _, _, _, h, _ => h.elim
 | _ :: _, _ :: _, [], _, _, h, _ => h.elim
 | [], _ :: _, _, _, hk, _, _ => by cases hk
 | k :: _, [], _, _, hk, _, _ => by cases k <;> cases hk
 | k :: l, c :: m, v :: vs, i, hk, h, hr => by
  have h0 : ρ' i = (cellX c).ev ρ := by have := hr 0 (cellX c) rfl; simpa using this
  have hrs : ∀ j x, (m.map cellX)[j]? = some x → ρ' (i + 1 + j) = x.ev ρ := fun j x hx => by
   rw [show i + 1 + j = i + (j + 1) by omega]
   exact hr (j + 1) x (by simpa using hx)
  unfold kindsOK at hk
  split at hk
  · rename_i e1 e2; cases e1
  · rename_i e1 e2; cases e1; cases e2
    simp only [Bool.and_eq_true] at hk
    rw [kindsY_eq, decide_eq_true_eq] at hk
    obtain ⟨rfl, hk⟩ := hk
    refine ⟨?_, symL_at hk h.2 hrs⟩
    have e : v = .int _ _ := h.1
    show v = .int _ (ρ' i)
    rw [e, h0]; rfl
  · rename_i e1 e2; cases e1; cases e2
    simp only [Bool.and_eq_true] at hk
    have := fKinds_eq hk.1
    subst this
    refine ⟨?_, symL_at hk.2 h.2 hrs⟩
    obtain ⟨b, e, hb⟩ := h.1
    exact ⟨b, e, by show _ = ρ' i; rw [h0]; exact hb⟩
  · rename_i e1 e2; cases e1; cases e2
    refine ⟨?_, symL_at hk h.2 hrs⟩
    have e : v = .bool _ := h.1
    show v = .bool (ρ' i == 1)
    rw [e, h0]; rfl
  · cases hk
theorem kindsOK_length : ∀ {l : List Kd} {m : List SC}, kindsOK l m = true → m.length = l.length
 | [], [], _ => rfl
 | [], _ :: _, h => by cases h
 | k :: _, [], h => by cases k <;> cases h
 | k :: l, c :: m, hk => by
  have hk' : kindsOK l m = true := by
   unfold kindsOK at hk
   split at hk
   · rename_i e1 e2; cases e1
   · rename_i e1 e2; cases e1; cases e2; simp only [Bool.and_eq_true] at hk; exact hk.2
   · rename_i e1 e2; cases e1; cases e2; simp only [Bool.and_eq_true] at hk; exact hk.2
   · rename_i e1 e2; cases e1; cases e2; exact hk
   · cases hk
  simp [kindsOK_length hk']
theorem argX_spec {k : AK} {s : SV} {xs : List X} (h : argX k s = some xs) {μ μ' : Mu} {v : Value} (hv : s.rel ρ μ v) :
  xs.length = k.size ∧ ∀ i, (∀ j x, xs[j]? = some x → ρ' (i + j) = x.ev ρ) → (k.sv i).rel ρ' μ' v := by
 unfold argX at h
 split at h
 · rename_i k c
   split at h
   · rename_i hk
     cases h
     refine ⟨rfl, fun i hr => ?_⟩
     have := symL_at (ρ := ρ) (ρ' := ρ') (μ := μ) (μ' := μ') (vs := [v]) (i := i) hk ⟨hv, trivial⟩ (fun j x hx => hr j x (by simpa using hx))
     exact this.1
   · cases h
 · rename_i l m
   split at h
   · rename_i hk
     cases h
     refine ⟨by rw [List.length_map, kindsOK_length hk]; rfl, fun i hr => ?_⟩
     obtain ⟨cs, e, hcs⟩ := hv
     exact ⟨cs, e, symL_at hk hcs hr⟩
   · cases h
 · cases h
theorem argsX_spec {μ μ' : Mu} : ∀ {ks : List AK} {args : List SV} {xs : List X} {vs : List Value}, argsX ks args = some xs → svsRel ρ μ args vs →
  xs.length = sizeA ks ∧ ∀ i, (∀ j x, xs[j]? = some x → ρ' (i + j) = x.ev ρ) → svsRel ρ' μ' (symA i ks) vs
 | [], [], xs, vs, h, hv => by
  cases h
  cases vs with
  | nil => exact ⟨rfl, fun _ _ => trivial⟩
  | cons _ _ => exact hv.elim
 | k :: ks, s :: args, xs, vs, h, hv => by
  cases vs with
  | nil => exact hv.elim
  | cons v vs =>
   unfold argsX at h
   split at h
   · rename_i x hx
     split at h
     · rename_i y hy
       cases h
       obtain ⟨l1, k1⟩ := argX_spec (ρ' := ρ') (μ' := μ') hx hv.1
       obtain ⟨l2, k2⟩ := argsX_spec (μ' := μ') hy hv.2
       refine ⟨by rw [List.length_append, l1, l2]; rfl, fun i hr => ⟨k1 i fun j x' hj => hr j x' ?_, k2 _ fun j x' hj => ?_⟩⟩
       · rw [List.getElem?_append_left (List.getElem?_eq_some_iff.1 hj).1]; exact hj
       · rw [← l1, show i + x.length + j = i + (x.length + j) by omega]
         refine hr _ x' ?_
         rw [List.getElem?_append_right (by omega)]
         simpa using hj
     · cases h
   · cases h
 | [], _ :: _, _, _, h, _ => by cases h
 | _ :: _, [], _, _, h, _ => by cases h
theorem argsX_size {ks : List AK} : ∀ {args : List SV} {xs : List X}, argsX ks args = some xs → xs.length = sizeA ks := by
 induction ks with
 | nil => intro args xs h; cases args <;> cases h; rfl
 | cons k ks ih =>
  intro args xs h
  cases args with
  | nil => cases h
  | cons s args =>
   unfold argsX at h
   split at h
   · rename_i x hx
     split at h
     · rename_i y hy
       cases h
       rw [List.length_append, ih hy]
       have : x.length = k.size := by
        unfold argX at hx
        split at hx
        · split at hx <;> cases hx; rfl
        · split at hx
          · rename_i hk; cases hx; rw [List.length_map, kindsOK_length hk]; rfl
          · cases hx
        · cases hx
       rw [this]; rfl
     · cases h
   · cases h
theorem smS_ok {P : Program} {Γ : Ctx} (hΓ : Γ.ok P) (hsum : ∀ f s, Γ.summ f = some s → SummOK P f s) {f : Nat} {F : Func} (hF : P.funcs[f]? = some F) (hname : (F.name == "runtime.NumGoroutine") = false) {ks : List AK} {S : Sm}
  (hrun : smRun Γ F ks S = true) : SummOK P f (smS S ks) := by
 intro T st args T1 vt h ρ hs
 unfold smS at h
 split at h
 case h_2 => cases h
 rename_i xs hxs
 split at h
 case h_2 => cases h
 rename_i T2 σ hinst
 split at h
 case h_2 => cases h
 rename_i vt' hvt'
 cases h
 unfold smRun at hrun
 split at hrun
 case h_2 => cases hrun
 rename_i T0 t0 hr
 split at hrun
 case h_2 => cases hrun
 rename_i hg hds hlow
 split at hrun
 case h_2 => cases hrun
 rename_i vt0 hvt
 have hvte := vtBeq_eq hrun
 subst hvte
 unfold runF at hr
 split at hr
 case h_2 => cases hr
 rename_i c hb
 rw [yExec_eq] at hr
 obtain ⟨ρ', hin, hs'⟩ := exists_rho hg (fun r => (xs[r]?.map (X.ev ρ)).getD 0)
 have hlen := argsX_size hxs
 have hat : ∀ j x, xs[j]? = some x → ρ' (0 + j) = x.ev ρ := fun j x hj => by
  have hlt := (List.getElem?_eq_some_iff.1 hj).1
  rw [Nat.zero_add, hin j (by omega), hj]; rfl
 obtain ⟨s0, hst⟩ := instDs_spec hs' S.ds _ _ _ _ (dsOK_spec hds) hinst hs
 have hstands := hst (fun r x hx => by
  rcases putsX_get _ _ _ _ _ hx with ⟨j, e, hj⟩ | hx
  · rw [e]; exact (hat j x hj).symm
  · cases hx)
 refine ⟨s0, fun w0 μ nb bs vs w hf _ hwr hvs => ?_⟩
 obtain ⟨_, hsym⟩ := argsX_spec (ρ' := ρ') (μ' := fun _ => none) hxs hvs
 have hrel := hsym 0 hat
 obtain ⟨_, hwp⟩ := exec_sound (ρ := ρ') hΓ hsum 400 _ _ _ _ _ hr hs'
 have hfr := frame_enter hrel F.ntmps
 rw [symA_length] at hfr
 refine callOK_of hΓ hF hname hb (calls_of_wp hF hb (hwp (Base.all w hwr.tabs) (fun _ => none) _ w _ ⟨rfl, hfr, WR.none w _, (fun r b h => by cases h)⟩ ?_))
 refine vtree_spec hvt _ fun e s v hv hpick => ?_
 intro μ' a' w' hp hw'
 obtain ⟨he, hv', hvn⟩ := leafRes_spec hv
 obtain ⟨x, hx, hxr⟩ := resultsS_sound hΓ hv' hw'
 have hxr' := settle_rel hs' hw'.fa (SV.rel_num (μ' := μ) hvn hxr)
 rw [← hpick] at hxr'
 have fin : bodyPost P F (fun e w2 => ∃ v, e = .returned v ∧ (vt.pick ρ).rel ρ μ v ∧ WR ρ w0 μ nb bs w2) .ret a' w' :=
  ⟨hw'.defers, x, hx, x, rfl, instVT_rel hstands hs hf hvt' hxr', hwr.after hw'.wr.kept.below⟩
 rcases he with rfl | rfl <;> exact fin
end
end
end Go.Sx
