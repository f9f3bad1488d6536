import PyProof.Rows.All
import PySem.Challenge.RW_brackenfell_k74_crowds_and_units
import Wide.All
import OpenK.AllK
import Wide.FinOn
import HandS.Deep
import PyProof.GenCompD
import HandS.ForMost
import KE.SortData
import KE.DataMinMax
import HandS.Dict
import HandS.SetKeys
import PyProof.DictMoreH
import KE.KDictKeyed
import HandS.AnyAll
import HandS.JoinGen
import HandS.Nested
import HandS.TupMul
import HandS.ForExc
import HandS.CallSlots
import HandS.Flow
import HandS.Style
import HandS.IsInst
import HandS.SortInts
import HandS.TupAny
import HandS.ExcInit
import HandS.ExcField
import HandS.ExcIs
import KE.KExcIs
import KE.KExcSuper
import KE.KDictSum
import KE.KDictCopyH
import HandS.SetFor
import HandS.TupSets
import PyProof.SumWalkG
import HandS.RaiseMore
import HandS.More
import KE.GoesEnum
import HandS.Zip
import HandS.Conv
import PyProof.WalksPairs
import KE.GoesZip
import HandS.SortKw
import KE.KNestM
import HandS.HeadWalk
set_option Elab.async false
set_option linter.all false
set_option maxRecDepth 100000
/-! BkGt: the elements of generator expressions: expressions over plain data that call nothing and change nothing. -/
namespace Bk
open PySem PySem.Spec PyProof.Rows L2
def cmpP (op : CmpOp) (x y : PyData) : Option Bool := match op with
  | .Eq => if SeqAt.shaped x = true ∧ SeqAt.shaped y = true then some (PyData.eqv x y) else none
  | .NotEq => if SeqAt.shaped x = true ∧ SeqAt.shaped y = true then some (!PyData.eqv x y) else none
  | .Lt => match x, y with
    | .int i, .int j => some (decide (i < j))
    | _, _ => none
  | .LtE => match x, y with
    | .int i, .int j => some (decide (i ≤ j))
    | _, _ => none
  | .Gt => match x, y with
    | .int i, .int j => some (decide (j < i))
    | _, _ => none
  | .GtE => match x, y with
    | .int i, .int j => some (decide (j ≤ i))
    | _, _ => none
  | .In => match y with
    | .list ys => if SeqAt.shaped x = true ∧ SeqAt.shaped (.list ys) = true then some (ys.any fun z => PyData.eqv z x) else none
    | .tuple ys => if SeqAt.shaped x = true ∧ SeqAt.shaped (.tuple ys) = true then some (ys.any fun z => PyData.eqv z x) else none
    | _ => none
  | .NotIn => match y with
    | .list ys => if SeqAt.shaped x = true ∧ SeqAt.shaped (.list ys) = true then some (!(ys.any fun z => PyData.eqv z x)) else none
    | .tuple ys => if SeqAt.shaped x = true ∧ SeqAt.shaped (.tuple ys) = true then some (!(ys.any fun z => PyData.eqv z x)) else none
    | _ => none
  | _ => none
def gChain (ev : Expr → Option PyData) (x : PyData) : List CmpOp → List Expr → Option PyData
  | [op], [e] => (ev e).bind fun y => (cmpP op x y).map .bool
  | op :: op2 :: ops, e :: e2 :: es => (ev e).bind fun y => (cmpP op x y).bind fun b => if b then gChain ev y (op2 :: ops) (e2 :: es) else some (.bool false)
  | _, _ => none
def gBool (ev : Expr → Option PyData) (op : BoolOp) : List Expr → Option PyData
  | [e] => ev e
  | e :: f :: r => match ev e with
    | some (.bool b) => match op with
      | .And => if b then gBool ev op (f :: r) else some (.bool false)
      | .Or => if b then some (.bool true) else gBool ev op (f :: r)
    | _ => none
  | _ => none
/-- a subscript that is no slice, a comparison's right side that is no set -/
def gPln : Expr → Bool
  | .Name .. => true
  | .Constant .. => true
  | .BinOp .. => true
  | .UnaryOp .. => true
  | .Subscript .. => true
  | .Call (.Name _ _) _ _ _ => true
  | _ => false
/-- the value of an element: env, what its names stand for -/
def gD (ln : Bool) (env : Str → Option PyData) : Nat → Expr → Option PyData
  | 0, _ => none
  | n + 1, e => match e with
    | .Name x _ => env x
    | .Constant (.int i) _ _ => some (.int i)
    | .Constant .none _ _ => some .none
    | .Constant (.bool b) _ _ => some (.bool b)
    | .Constant (.str b) _ _ => some (.str b)
    | .Call (.Name f _) [a] [] _ => if ln && (f == ("len" : Str) && (gPln a)) then match gD ln env n a with
      | some (.tuple xs) => if xs.length ≤ 1000000000 then some (.int xs.length) else none
      | some (.list xs) => if xs.length ≤ 1000000000 then some (.int xs.length) else none
      | _ => none
      else none
    | .UnaryOp .USub a _ => match gD ln env n a with
      | some (.int i) => some (.int (-i))
      | _ => none
    | .BinOp a .Add b _ => match gD ln env n a, gD ln env n b with
      | some (.int i), some (.int j) => some (.int (i + j))
      | _, _ => none
    | .BinOp a .Sub b _ => match gD ln env n a, gD ln env n b with
      | some (.int i), some (.int j) => some (.int (i - j))
      | _, _ => none
    | .Compare a ops es _ => if es.all gPln then (gD ln env n a).bind fun x => gChain (gD ln env n) x ops es else none
    | .BoolOp op es _ => gBool (gD ln env n) op es
    | .Subscript a i _ => if gPln i then match gD ln env n a, gD ln env n i with
      | some (.tuple xs), some (.int i) => if -1000000000 ≤ i ∧ i ≤ 1000000000 ∧ xs.length ≤ 1000000000 then atI xs i else none
      | some (.list xs), some (.int i) => if -1000000000 ≤ i ∧ i ≤ 1000000000 ∧ xs.length ≤ 1000000000 then atI xs i else none
      | _, _ => none
      else none
    | _ => none
/-- no test, or a comparison -/
def gTest (ln : Bool) (env : Str → Option PyData) (N : Nat) : List Expr → Option Bool
  | [] => some true
  | [.Compare a [op] [b] _] => if gPln b then match gD ln env N a, gD ln env N b with
      | some x, some y => cmpP op x y
      | _, _ => none
    else none
  | _ => none
end Bk

/-! BkGd: the elements of generator expressions are sound. -/
namespace Bk
open PySem PySem.Spec PyProof.Rows L2
/-! ### soundness -/
section
variable {prog : Program} {w : World} {cenv : Env} {env : Str → Option PyData} {ln : Bool}
def Rdv (h : Heap) (v : Value) (p : PyData) : Prop := ∃ as, Reads h v p as
theorem Keeps.rfl' (s : Shared) : Keeps s s := ⟨s.heap, s.toks, rfl, fun _ _ e => e⟩
theorem Keeps.tok (s : Shared) (k : Nat) : Keeps s { s with toks := k } := ⟨s.heap, k, rfl, fun _ _ e => e⟩
theorem Keeps.tr {a b c : Shared} (x : Keeps a b) (y : Keeps b c) : Keeps a c := by
  obtain ⟨h1, t1, rfl, k1⟩ := x
  obtain ⟨h2, t2, rfl, k2⟩ := y
  exact ⟨h2, t2, rfl, fun b o e => k2 b o (k1 b o e)⟩
theorem Rdv.keep {s s' : Shared} {v : Value} {p : PyData} (r : Rdv s.heap v p) (k : Keeps s s') : Rdv s'.heap v p := by
  obtain ⟨as, r⟩ := r
  obtain ⟨h1, t1, rfl, k1⟩ := k
  exact ⟨as, Reads.keeps k1 r⟩
/-- the names are bound -/
def NmK (prog : Program) (w : World) (cenv : Env) (env : Str → Option PyData) (s : Shared) : Prop := ∀ s', Keeps s s' → ∀ (x : Str) (p : PyData), env x = some p → ∀ (A : Around) (E Q : Value → Shared → Prop) (pos : Pos), (∀ v, Rdv s'.heap v p → Q v s') → wpAny (model prog w) A (eval (.Name x pos) cenv) Q E s'
theorem NmK.keep {s s' : Shared} (n : NmK prog w cenv env s) (k : Keeps s s') : NmK prog w cenv env s' := fun s2 k2 => n s2 (Keeps.tr k k2)
/-- len is the built-in -/
def LnK (prog : Program) (w : World) (cenv : Env) (s : Shared) : Prop := ∀ s', Keeps s s' → ∀ (A : Around) (E Q : Value → Shared → Prop) (pos : Pos), Q (.builtin "len") s' → wpAny (model prog w) A (eval (.Name "len" pos) cenv) Q E s'
theorem LnK.keep {s s' : Shared} (n : LnK prog w cenv s) (k : Keeps s s') : LnK prog w cenv s' := fun s2 k2 => n s2 (Keeps.tr k k2)
/-- an expression gives p -/
def Gv (ln : Bool) (prog : Program) (w : World) (cenv : Env) (env : Str → Option PyData) (e : Expr) (p : PyData) : Prop := ∀ (s : Shared) (A : Around) (E Q : Value → Shared → Prop), A.handled = none → A.units + 80 < cLine → (NmK prog w cenv env s ∧ (ln = true → LnK prog w cenv s)) →
  (∀ v s', Rdv s'.heap v p → Keeps s s' → Q v s') → wpAny (model prog w) A (eval e cenv) Q E s
theorem cmpP_ok {op : CmpOp} {x y : PyData} {b : Bool} (e : cmpP op x y = some b) {s : Shared} {u v : Value} (ru : Rdv s.heap u x) (rv : Rdv s.heap v y) {A : Around} {E Q : Value → Shared → Prop} (hu : A.units + 80 < cLine) (h : Q (.bool b) s) :
    wpAny (model prog w) A (compareOp op u v) Q E s := by
  obtain ⟨as, ru⟩ := ru
  obtain ⟨bs, rv⟩ := rv
  unfold cmpP at e
  split at e
  · split at e
    · rename_i hs
      cases e
      exact SeqAt.compareEq_shaped ru rv hs.1 hs.2 (by omega) h
    · cases e
  · split at e
    · rename_i hs
      cases e
      exact SeqAt.compareNe_shaped ru rv hs.1 hs.2 (by omega) h
    · cases e
  · split at e
    · cases e; cases ru; cases rv; exact lt_int h
    · cases e
  · split at e
    · cases e; cases ru; cases rv; exact le_int h
    · cases e
  · split at e
    · cases e; cases ru; cases rv; exact gt_int h
    · cases e
  · split at e
    · cases e; cases ru; cases rv; exact ge_int h
    · cases e
  · split at e
    · split at e
      · rename_i hs
        cases e
        exact SeqAt.in_list_reads rv ru (SeqAt.canLay_of_shaped hs.2) (SeqAt.canLay_of_shaped hs.1) (room_in_shaped hs.1 (by omega)) h
      · cases e
    · split at e
      · rename_i hs
        cases e
        exact SeqAt.in_tuple_reads rv ru (SeqAt.canLay_of_shaped hs.2) (SeqAt.canLay_of_shaped hs.1) (room_in_shaped hs.1 (by omega)) h
      · cases e
    · cases e
  · split at e
    · split at e
      · rename_i hs
        cases e
        exact SeqAt.notIn_list_reads rv ru (SeqAt.canLay_of_shaped hs.2) (SeqAt.canLay_of_shaped hs.1) (room_in_shaped hs.1 (by omega)) h
      · cases e
    · split at e
      · rename_i hs
        cases e
        exact SeqAt.notIn_tuple_reads rv ru (SeqAt.canLay_of_shaped hs.2) (SeqAt.canLay_of_shaped hs.1) (room_in_shaped hs.1 (by omega)) h
      · cases e
    · cases e
  · cases e
theorem gMark {op : CmpOp} {e : Expr} (h : gPln e = true) : behindInMarks op e = false := by
  cases e <;> first | rfl | cases h
theorem gLast : ∀ {ops : List CmpOp} {es : List Expr}, es.all gPln = true → lastMarks ops es = false
  | [], _, _ => rfl
  | [_], [], _ => rfl
  | [op], [e], h => gMark (by simpa using h)
  | [_], e :: e' :: es, h => by
    show lastMarks [] (e' :: es) = false
    rfl
  | _ :: _ :: _, [], _ => rfl
  | _ :: op :: ops, e :: es, h => by
    rw [List.all_cons, Bool.and_eq_true] at h
    show lastMarks (op :: ops) es = false
    exact gLast h.2
theorem gEach (es : List Expr) (env : Env) : evalEach es env = es.map fun e => eval e env := by
  induction es with
  | nil => rfl
  | cons e r ih =>
    show eval e env :: evalEach r env = _
    rw [ih]; rfl
theorem gPlain {b : Expr} (h : gPln b = true) : ∀ o i, subscripted b false o i = operate [o, i] (getItem o i) := by
  intro o i
  cases b <;> first | rfl | cases h
theorem chainG_ok {ev : Expr → Option PyData} (ih : ∀ e p, ev e = some p → Gv ln prog w cenv env e p) {pos : Pos} : ∀ (ops : List CmpOp) (es : List Expr) (x p : PyData), gChain ev x ops es = some p →
    ∀ (s : Shared) (u : Value) (A : Around) (E Q : Value → Shared → Prop), A.handled = none → A.units + 80 < cLine → (NmK prog w cenv env s ∧ (ln = true → LnK prog w cenv s)) → Rdv s.heap u x → (∀ v s', Rdv s'.heap v p → Keeps s s' → Q v s') →
    wpAny (model prog w) A (compareChain pos u ops (es.map fun e => eval e cenv)) Q E s
  | [op], [e], x, p, h, s, u, A, E, Q, hh, hu, nm, ru, hq => by
    simp only [gChain, Option.bind_eq_some_iff, Option.map_eq_some_iff] at h
    obtain ⟨y, ey, b, hb, rfl⟩ := h
    refine chain_last (ih e y ey s A E _ hh hu nm fun v s' rv k => ?_)
    exact cmpP_ok hb (ru.keep k) rv hu (hq _ _ ⟨_, .bool b⟩ k)
  | op :: op2 :: ops, e :: e2 :: es, x, p, h, s, u, A, E, Q, hh, hu, nm, ru, hq => by
    rw [gChain, Option.bind_eq_some_iff] at h
    obtain ⟨y, ey, h⟩ := h
    rw [Option.bind_eq_some_iff] at h
    obtain ⟨b, hb, h⟩ := h
    refine chain_link (ih e y ey s A E _ hh hu nm fun v s' rv k => ?_)
    refine cmpP_ok hb (ru.keep k) rv hu (wpAny_truthy_bool ?_)
    cases b with
    | false =>
      simp only [Bool.false_eq_true, if_false] at h ⊢
      cases h
      exact hq _ _ ⟨_, .bool false⟩ k
    | true =>
      simp only [if_true] at h ⊢
      exact chainG_ok ih (op2 :: ops) (e2 :: es) y p h s' v A E Q hh hu ⟨nm.1.keep k, fun q => (nm.2 q).keep k⟩ rv fun v2 s2 r2 k2 => hq v2 s2 r2 (Keeps.tr k k2)
  | [], _, _, _, h, _, _, _, _, _, _, _, _, _, _ => by simp [gChain] at h
  | [_], [], _, _, h, _, _, _, _, _, _, _, _, _, _ => by simp [gChain] at h
  | [_], _ :: _ :: _, _, _, h, _, _, _, _, _, _, _, _, _, _ => by simp [gChain] at h
  | _ :: _ :: _, [], _, _, h, _, _, _, _, _, _, _, _, _, _ => by simp [gChain] at h
  | _ :: _ :: _, [_], _, _, h, _, _, _, _, _, _, _, _, _, _ => by simp [gChain] at h
theorem boolG_ok {ev : Expr → Option PyData} (ih : ∀ e p, ev e = some p → Gv ln prog w cenv env e p) {op : BoolOp} {pos : Pos} : ∀ (es : List Expr) (p : PyData), gBool ev op es = some p → Gv ln prog w cenv env (.BoolOp op es pos) p
  | [e], p, h => fun s A E Q hh hu nm hq => BoolOp_one (ih e p h s A E Q hh hu nm hq)
  | e :: f :: r, p, h => fun s A E Q hh hu nm hq => by
    rw [gBool] at h
    split at h
    · rename_i b eb
      cases op with
      | And =>
        refine BoolOp_and (ih e _ eb s A E _ hh hu nm fun v s' rv k => ?_)
        obtain ⟨as, rv⟩ := rv
        cases rv
        refine wpAny_truthy_bool ?_
        cases b with
        | false =>
          simp only [Bool.false_eq_true, if_false] at h ⊢
          cases h
          exact hq _ _ ⟨_, .bool false⟩ k
        | true =>
          simp only [if_true] at h ⊢
          exact boolG_ok ih (f :: r) p h s' A E Q hh hu ⟨nm.1.keep k, fun q => (nm.2 q).keep k⟩ fun v2 s2 r2 k2 => hq v2 s2 r2 (Keeps.tr k k2)
      | Or =>
        refine BoolOp_or (ih e _ eb s A E _ hh hu nm fun v s' rv k => ?_)
        obtain ⟨as, rv⟩ := rv
        cases rv
        refine wpAny_truthy_bool ?_
        cases b with
        | true =>
          simp only [if_true] at h ⊢
          cases h
          exact hq _ _ ⟨_, .bool true⟩ k
        | false =>
          simp only [Bool.false_eq_true, if_false] at h ⊢
          exact boolG_ok ih (f :: r) p h s' A E Q hh hu ⟨nm.1.keep k, fun q => (nm.2 q).keep k⟩ fun v2 s2 r2 k2 => hq v2 s2 r2 (Keeps.tr k k2)
    · cases h
  | [], p, h => by simp [gBool] at h
theorem readsAll_get {h : Heap} : ∀ {vs : List Value} {ds : List PyData} {as : List Addr} {j : Nat} {d : PyData}, ReadsAll h vs ds as → ds[j]? = some d → ∃ v, vs[j]? = some v ∧ Rdv h v d
  | _, _, _, _, _, .nil, e => by simp at e
  | _, _, _, 0, _, .cons r _, e => by
    simp at e
    subst e
    exact ⟨_, rfl, _, r⟩
  | _, _, _, j + 1, _, .cons _ rs, e => by
    simp at e
    obtain ⟨v, e1, r⟩ := readsAll_get rs e
    exact ⟨v, by simpa using e1, r⟩
theorem readsAll_len {h : Heap} : ∀ {vs : List Value} {ds : List PyData} {as : List Addr}, ReadsAll h vs ds as → vs.length = ds.length
  | _, _, _, .nil => rfl
  | _, _, _, .cons _ rs => by simp [readsAll_len rs]
theorem gD_ok : ∀ (n : Nat) (e : Expr) (p : PyData), gD ln env n e = some p → Gv ln prog w cenv env e p
  | 0, _, _, h => by simp [gD] at h
  | n + 1, e, p, h => by
    have ih := gD_ok n
    unfold gD at h
    split at h
    · exact fun s A E Q hh hu nm hq => nm.1 s (Keeps.rfl' s) _ _ h A E Q _ fun v r => hq v s r (Keeps.rfl' s)
    · cases h
      exact fun s A E Q hh hu nm hq => wpAny_Constant_int (hq _ _ ⟨_, .int _ _⟩ (Keeps.tok s _))
    · cases h
      exact fun s A E Q hh hu nm hq => wpAny_Constant_none (hq _ _ ⟨_, .none⟩ (Keeps.rfl' s))
    · cases h
      exact fun s A E Q hh hu nm hq => wpAny_Constant_bool (hq _ _ ⟨_, .bool _⟩ (Keeps.rfl' s))
    · cases h
      exact fun s A E Q hh hu nm hq => Calls.Constant_str (hq _ _ ⟨_, .str _ _⟩ (Keeps.tok s _))
    · split at h
      · rename_i f pf a pos hg
        rw [Bool.and_eq_true, Bool.and_eq_true] at hg
        obtain ⟨hl, hf, hi⟩ := hg
        have hf' : f = "len" := by simpa using hf
        subst hf'
        have hst : starEach [a] cenv = (false, eval a cenv) :: starEach [] cenv := by
          cases a <;> first | rfl | cases hi
        refine fun s A E Q hh hu nm hq => wpAny_Call_Name_kw ((nm.2 hl) s (Keeps.rfl' s) A E _ pf (PyProof.Rows.callWith_builtin1 ?_ hst (by rfl)))
        rw [hst]
        show wpAny _ _ (spliced ((false, eval a cenv) :: backTo pos (starEach [] cenv))) _ _ s
        split at h
        · rename_i xs ea
          split at h
          · rename_i hx
            cases h
            refine Calls.spliced_cons (ih _ _ ea s A E _ hh hu nm fun v s' ⟨as, r⟩ k => Calls.spliced_nil ?_)
            cases r with
            | @tuple _ o vs _ _ _ h1 h2 h3 h4 =>
              have hl := readsAll_len h4
              have pl : IsTup s'.heap _ vs := ⟨o, h1, h2, _, h3⟩
              have hsz : vs.size = xs.length := by rw [← Array.length_toList]; exact hl
              refine len_tuple pl (by omega) (hq _ _ ?_ (Keeps.tr k (Keeps.tok _ _)))
              rw [hsz]
              exact ⟨_, .int _ _⟩
          · cases h
        · rename_i xs ea
          split at h
          · rename_i hx
            cases h
            refine Calls.spliced_cons (ih _ _ ea s A E _ hh hu nm fun v s' ⟨as, r⟩ k => Calls.spliced_nil ?_)
            cases r with
            | @list _ o vs _ _ _ h1 h2 h3 h4 =>
              have hl := readsAll_len h4
              have pl : s'.heap.IsList _ vs := ⟨o, h1, h2, _, h3⟩
              have hsz : vs.size = xs.length := by rw [← Array.length_toList]; exact hl
              refine Calls.call_len_list pl (by omega) (hq _ _ ?_ (Keeps.tr k (Keeps.tok _ _)))
              rw [hsz]
              exact ⟨_, .int _ _⟩
          · cases h
        · cases h
      · cases h
    · split at h
      · rename_i ea
        cases h
        refine fun s A E Q hh hu nm hq => wpAny_UnaryOp (ih _ _ ea s A E _ hh hu nm fun v s' ⟨as, r⟩ k => ?_)
        cases r
        exact neg_int (hq _ _ ⟨_, .int _ _⟩ (Keeps.tr k (Keeps.tok _ _)))
      · cases h
    · split at h
      · rename_i ea eb
        cases h
        refine fun s A E Q hh hu nm hq => wpAny_BinOp (ih _ _ ea s A E _ hh hu nm fun v s' ⟨as, r⟩ k => ?_)
        cases r
        refine ih _ _ eb s' A E _ hh hu ⟨nm.1.keep k, fun q => (nm.2 q).keep k⟩ fun v2 s2 ⟨as, r2⟩ k2 => ?_
        cases r2
        exact add_int (hq _ _ ⟨_, .int _ _⟩ (Keeps.tr (Keeps.tr k k2) (Keeps.tok _ _)))
      · cases h
    · split at h
      · rename_i ea eb
        cases h
        refine fun s A E Q hh hu nm hq => wpAny_BinOp (ih _ _ ea s A E _ hh hu nm fun v s' ⟨as, r⟩ k => ?_)
        cases r
        refine ih _ _ eb s' A E _ hh hu ⟨nm.1.keep k, fun q => (nm.2 q).keep k⟩ fun v2 s2 ⟨as, r2⟩ k2 => ?_
        cases r2
        exact sub_int (hq _ _ ⟨_, .int _ _⟩ (Keeps.tr (Keeps.tr k k2) (Keeps.tok _ _)))
      · cases h
    · split at h
      · rename_i a ops es pos hg
        obtain ⟨x, ea, h⟩ := Option.bind_eq_some_iff.mp h
        refine fun s A E Q hh hu nm hq => ?_
        match ops, es, h, hg with
        | [op], [e], h, hg =>
          simp only [gChain, Option.bind_eq_some_iff, Option.map_eq_some_iff] at h
          obtain ⟨y, ey, b, hb, rfl⟩ := h
          refine wpAny_Compare1 (ih _ _ ea s A E _ hh hu nm fun v s' rv k => ?_) (gMark (by simpa using hg))
          refine ih _ _ ey s' A E _ hh hu ⟨nm.1.keep k, fun q => (nm.2 q).keep k⟩ fun v2 s2 rv2 k2 => ?_
          exact cmpP_ok hb (rv.keep k2) rv2 hu (hq _ _ ⟨_, .bool b⟩ (Keeps.tr k k2))
        | op :: op2 :: ops, e :: e2 :: es, h, hg =>
          refine Compare_chain (ih _ _ ea s A E _ hh hu nm fun v s' rv k => ?_) (gLast hg)
          have := chainG_ok (pos := pos) ih (op :: op2 :: ops) (e :: e2 :: es) x p h s' v A E Q hh hu ⟨nm.1.keep k, fun q => (nm.2 q).keep k⟩ rv fun v2 s2 r2 k2 => hq v2 s2 r2 (Keeps.tr k k2)
          rw [List.map_cons, List.map_cons, ← gEach] at this
          exact this
        | [], _, h, _ => simp [gChain] at h
        | [_], [], h, _ => simp [gChain] at h
        | [_], _ :: _ :: _, h, _ => simp [gChain] at h
        | _ :: _ :: _, [], h, _ => simp [gChain] at h
        | _ :: _ :: _, [_], h, _ => simp [gChain] at h
      · cases h
    · exact boolG_ok ih _ p h
    · split at h
      · rename_i a i pos hg
        split at h
        · rename_i xs i' ea ei
          split at h
          · rename_i hb
            refine fun s A E Q hh hu nm hq => Subscript_ (ih _ _ ea s A E _ hh hu nm fun v s' rv k => ih _ _ ei s' A E _ hh hu ⟨nm.1.keep k, fun q => (nm.2 q).keep k⟩ fun v2 s2 rv2 k2 => ?_)
            obtain ⟨as, r⟩ := rv.keep k2
            obtain ⟨bs, r2⟩ := rv2
            cases r2
            cases r with
            | @tuple _ o vs _ _ _ h1 h2 h3 h4 =>
              obtain ⟨j, e1, e2, e3, e4, e5⟩ := atI_get h
              obtain ⟨z, ez, rz⟩ := readsAll_get h4 e2
              have hl := readsAll_len h4
              have pl : IsTup s2.heap _ vs := ⟨o, h1, h2, _, h3⟩
              refine subscriptTail_builtinR (x := z) pl.typeIs slot_tuple_getitem.lookup
                (getItem_tuple (j := j) (Q := fun r s' => r = z ∧ Q r s') pl (by omega) (by omega) (by rw [← Array.length_toList, hl]; exact e1) (by rw [← Array.getElem?_toList]; exact ez) ⟨rfl, hq _ _ rz (Keeps.tr k k2)⟩) (gPlain hg _ _)
          · cases h
        · rename_i xs i' ea ei
          split at h
          · rename_i hb
            refine fun s A E Q hh hu nm hq => Subscript_ (ih _ _ ea s A E _ hh hu nm fun v s' rv k => ih _ _ ei s' A E _ hh hu ⟨nm.1.keep k, fun q => (nm.2 q).keep k⟩ fun v2 s2 rv2 k2 => ?_)
            obtain ⟨as, r⟩ := rv.keep k2
            obtain ⟨bs, r2⟩ := rv2
            cases r2
            cases r with
            | @list _ o vs _ _ _ h1 h2 h3 h4 =>
              obtain ⟨j, e1, e2, e3, e4, e5⟩ := atI_get h
              obtain ⟨z, ez, rz⟩ := readsAll_get h4 e2
              have hl := readsAll_len h4
              have hsz : vs.size = xs.length := by rw [← Array.length_toList]; exact hl
              have pl : s2.heap.IsList _ vs := ⟨o, h1, h2, _, h3⟩
              by_cases h0 : 0 ≤ i'
              · have hj : i'.toNat = j := by
                  rw [seqIndex_of h0 (by omega)] at e1
                  exact Option.some.inj e1
                exact item_listR pl h0 (by omega) (by rw [hj, ← Array.getElem?_toList]; exact ez) (hq _ _ rz (Keeps.tr k k2)) (gPlain hg _ _)
              · have hj : (i' + (vs.size : Int)).toNat = j := by
                  rw [seqIndex_neg (by omega) e4] at e1
                  rw [hsz]
                  exact Option.some.inj e1
                exact subscriptTail_builtinR (x := z) pl.typeIs slot_list_getitem.lookup
                  (wpAny_getItem_list_neg (Q := fun r s' => r = z ∧ Q r s') pl (by omega) (by omega) (by omega) (by rw [hj, ← Array.getElem?_toList]; exact ez) ⟨rfl, hq _ _ rz (Keeps.tr k k2)⟩) (gPlain hg _ _)
          · cases h
        · cases h
      · cases h
    · cases h
end
end Bk

/-! BkGn: generator expressions whose target is any tuple of targets: how the parts are stored is left open (asg), and what holds of the names then (M). -/
namespace Bk
open PySem PySem.Spec PyProof.Rows
/-- the storing of an item's parts -/
def stores (ts : List Expr) (cenv : Env) (vs : List Value) : Sem Unit := assignInOrder ((assignEach ts cenv).map (·.2)) vs
section
variable {prog : Program} {w : World} {A : Around}
/-- what a turn does: it stores, it tests, it answers -/
structure TurnsG (prog : Program) (w : World) (cenv : Env) (ts ifs : List Expr) (elt : Expr) (fp wr : List Addr) (Pt : Nat → Array Value → Prop) (M : Nat → (Str → Option Value) → Prop) (pz : Nat → Bool) (F : Nat → Value → Prop) (href : Heap) (D U : Nat) : Prop where
  asg : ∀ (B : Around) E i vs (s : Shared) m (Q : Shared → Prop), B.handled = none → Pt i vs → s.heap.Ns cenv.locals m → (∀ b ∈ fp, b ∉ wr → ∀ o, href.get? b = some o → s.heap.get? b = some o) →
    (∀ h t m', h.Ns cenv.locals m' → M i m' → (∀ b o, b ≠ cenv.locals → s.heap.get? b = some o → h.get? b = some o) → Q { s with heap := h, toks := t }) → wpAny (model prog w) B (stores ts cenv vs.toList) (fun _ s' => Q s') E s
  tests : ∀ (B : Around) E i (s : Shared) m, B.handled = none → B.depth ≤ D → B.units ≤ U → M i m → s.heap.Ns cenv.locals m → (∀ b ∈ fp, b ∉ wr → ∀ o, href.get? b = some o → s.heap.get? b = some o) →
    wpAny (model prog w) B (forIn ifs true fun c r => if r = true then do let ok ← isTrue c cenv (eval c cenv); pure (ForInStep.yield ok) else pure (ForInStep.yield r)) (fun ok s' => ok = pz i ∧ Keeps s s') E s
  elt : ∀ (B : Around) E i (s : Shared) m, B.handled = none → B.depth ≤ D → B.units ≤ U → M i m → pz i = true → s.heap.Ns cenv.locals m → (∀ b ∈ fp, b ∉ wr → ∀ o, href.get? b = some o → s.heap.get? b = some o) →
    wpAny (model prog w) B (eval elt cenv) (fun y s' => F i y ∧ Keeps s s') E s
section
variable {elt iter : Expr} {ts ifs : List Expr} {kt : Nat} {pt pos : Pos} {scope : Scope} {I : Addr} {fp wr : List Addr} {n₀ : Nat} {Pt : Nat → Array Value → Prop} {St₀ : Nat → Heap → Prop} {Mid : Nat → Addr → Heap → Prop} {cenv : Env} {M : Nat → (Str → Option Value) → Prop}
/-- the generator expression -/
abbrev gxG (elt iter : Expr) (ts ifs : List Expr) (kt : Nat) (pt pos : Pos) (scope : Scope) : Expr := .GeneratorExp elt [⟨.Tuple ts kt pt, iter, ifs, 0⟩] scope pos
theorem loopG (hh : A.handled = none) (W₀ : ∀ B : Around, B.handled = none → WalksU prog w B I fp wr n₀ Pt St₀ Mid) (hsz : ∀ i vs, Pt i vs → (assignEach ts cenv).length = vs.size) (hst : (assignEach ts cenv).findIdx? (·.1) = none) (pz : Nat → Bool) (F : Nat → Value → Prop) (href : Heap)
    (hco : cenv.scope.isCoroutine = false) (hCf : cenv.locals ∉ fp) (hq : TurnsG prog w cenv ts ifs elt fp wr Pt M pz F href (A.depth + 1) (A.units + 3)) :
    ∀ (k i : Nat) (s₀ s : Shared) (m : Str → Option Value), n₀ - i = k → i ≤ n₀ → St₀ i s.heap → s.heap.Ns cenv.locals m → GenSince cenv.locals wr s₀ s → (∀ b ∈ fp, b ∉ wr → ∀ o, href.get? b = some o → s.heap.get? b = some o) →
      Seg (model prog w) A (fun n s₀ r s₁ => r = .ok .next ∧ (n = 0 ∧ GenSince cenv.locals wr s₀ s₁)) (genProto cenv.locals fp wr pz n₀ F) (passing pz n₀ i).length s₀
        (.compLoop (gxG elt iter ts ifs kt pt pos scope) 0 (.ref I) .none cenv) ((model prog w).den (.compLoop (gxG elt iter ts ifs kt pt pos scope) 0 (.ref I) .none cenv)) [] s := by
  have oh : (A.over (.compLoop (gxG elt iter ts ifs kt pt pos scope) 0 (.ref I) .none cenv) []).handled = none := hh
  have od : (A.over (.compLoop (gxG elt iter ts ifs kt pt pos scope) 0 (.ref I) .none cenv) []).depth ≤ A.depth + 1 := Nat.le_of_eq rfl
  have ou : (A.over (.compLoop (gxG elt iter ts ifs kt pt pos scope) 0 (.ref I) .none cenv) []).units ≤ A.units + 3 := Nat.le_of_eq rfl
  have W := W₀ A hh
  have nw : cenv.locals ∉ wr := fun z => hCf (W.sub _ z)
  intro k
  induction k with
  | zero =>
    intro i s₀ s m hk hi st hn since kp
    obtain rfl : i = n₀ := by omega
    show Seg _ A _ _ _ s₀ _ ((compTurn (gxG elt iter ts ifs kt pt pos scope) 0 (.ref I) .none cenv).onRaise (leaving cenv)) [] s
    rw [compTurn_gen, Sem.onRaise_eq_wrap]
    refine seg_bind_wrap (wpAny_standAt (seg_bind_wrap ((W₀ _ oh).done s _ _ st fun h' tk kh => ?_)))
    exact seg_end (.ok .next) ⟨rfl, by rw [passing_end]; rfl, since.step fun b o _ nb e => kh b o nb e⟩
  | succ k ih =>
    intro i s₀ s m hk hi st hn since kp
    have lt : i < n₀ := by omega
    show Seg _ A _ _ _ s₀ _ ((compTurn (gxG elt iter ts ifs kt pt pos scope) 0 (.ref I) .none cenv).onRaise (leaving cenv)) [] s
    rw [compTurn_gen, Sem.onRaise_eq_wrap]
    refine seg_bind_wrap (wpAny_standAt (seg_bind_wrap ((W₀ _ oh).item i s _ _ lt st fun T vs h1 t1 hP hT1 mid k1 => ?_)))
    refine seg_bind_wrap ((W₀ _ oh).go _ _ _ i T _ _ _ mid fun h2 st2 k2 => ?_)
    have hT2 : h2.IsTuple T vs := by
      obtain ⟨o, e, r⟩ := hT1
      exact ⟨o, k2 _ o ((W₀ _ oh).apart i T _ mid) e, r⟩
    have n12 : ∀ b o, b ∉ wr → s.heap.get? b = some o → h2.get? b = some o := fun b o nb e => k2 b o nb (k1 b o nb e)
    refine seg_bind_wrap (wpAny_assign_Tuple oh hT2 (hsz i vs hP) hst fun h3 x3 => ?_)
    replace x3 : Heap.ExtBut h2.objs.size h2 h3 := x3
    have k3 : ∀ b o, h2.get? b = some o → h3.get? b = some o := fun b o e => x3 b o (Nat.ne_of_lt (Heap.lt_size e)) e
    refine hq.asg _ _ i vs _ m _ oh hP (hn.at' fun o e => k3 _ o (n12 _ o nw e)) (fun b hb nb o e => k3 b o (n12 b o nb (kp b hb nb o e))) fun h4 t4 m4 hn4 hM k4 => ?_
    have up : ∀ b o, b ≠ cenv.locals → b ∉ wr → s.heap.get? b = some o → h4.get? b = some o := fun b o nb nbw e => k4 b o nb (k3 b o (n12 b o nbw e))
    have st4 : St₀ (i + 1) h4 := W.frame _ _ _ st2 fun b hb o e => k4 b o (fun z => hCf (z ▸ hb)) (k3 b o e)
    have kp4 : ∀ b ∈ fp, b ∉ wr → ∀ o, href.get? b = some o → h4.get? b = some o := fun b hb nb o e => up b o (fun z => hCf (z ▸ hb)) nb (kp b hb nb o e)
    refine seg_bind_wrap (wpAny_mono (hq.tests _ _ i _ m4 oh od ou hM hn4 kp4) (fun ok s5 r5 => ?_) fun _ _ e => e)
    obtain ⟨rfl, h5, t5, rfl, k5⟩ := r5
    have st5 : St₀ (i + 1) h5 := W.frame _ _ _ st4 fun b _ o e => k5 b o e
    have hn5 := hn4.keeps k5
    have since5 : GenSince cenv.locals wr s₀ { s with heap := h5, toks := t5 } := since.step fun b o nb nbw e => k5 b o (up b o nb nbw e)
    cases hz : pz i with
    | false =>
      rw [passing_false lt hz]
      simp only [Bool.false_eq_true, if_false]
      exact seg_again rfl (ih (i + 1) s₀ _ _ (by omega) lt st5 hn5 since5 fun b hb nb o e => k5 b o (kp4 b hb nb o e))
    | true =>
      rw [passing_true lt hz, List.length_cons]
      simp only [if_true]
      have hy : ∀ v, yieldOut cenv v = yieldValue v := fun v => by simp only [yieldOut, hco, Bool.false_eq_true, if_false]
      simp only [hy]
      rw [Sem.bind_eq_wrap', Sem.bind_eq_wrap', Sem.wrap_wrap, Sem.wrap_wrap]
      refine seg_wrap (wpAny_mono (hq.elt _ _ i _ m4 oh od ou hM hz hn5 fun b hb nb o e => k5 b o (kp4 b hb nb o e)) (fun y s6 r6 => ?_) fun _ _ e => e)
      obtain ⟨fy, h6, t6, rfl, k6⟩ := r6
      refine seg_at (seg_yield rfl rfl rfl ⟨⟨i, passing_here lt hz, fy⟩, since5.step fun b o _ _ e => k6 b o e, fun s'' al => ?_⟩)
      exact seg_again rfl (ih (i + 1) s'' s'' _ (by omega) lt (W.frame _ _ _ st5 fun b hb o e => al b (List.mem_cons_of_mem _ hb) o (k6 b o e))
        ((hn5.keeps k6).at' fun o e => al _ (List.mem_cons_self ..) o e) (GenSince.refl _ _ _) fun b hb nb o e => al b (List.mem_cons_of_mem _ hb) o (k6 b o (k5 b o (kp4 b hb nb o e))))
theorem startG (hh : A.handled = none) (W₀ : ∀ B : Around, B.handled = none → WalksU prog w B I fp wr n₀ Pt St₀ Mid) (hsz : ∀ i vs, Pt i vs → (assignEach ts cenv).length = vs.size) (hst : (assignEach ts cenv).findIdx? (·.1) = none) (pz : Nat → Bool) (F : Nat → Value → Prop) (href : Heap)
    (hco : cenv.scope.isCoroutine = false) (hCf : cenv.locals ∉ fp) (hq : TurnsG prog w cenv ts ifs elt fp wr Pt M pz F href (A.depth + 1) (A.units + 3))
    (s₀ s : Shared) (m : Str → Option Value) (st : St₀ 0 s.heap) (hn : s.heap.Ns cenv.locals m) (since : GenSince cenv.locals wr s₀ s) (kp : ∀ b ∈ fp, b ∉ wr → ∀ o, href.get? b = some o → s.heap.get? b = some o) :
    Seg (model prog w) A (fun n s₀ r s₁ => r = .ok .next ∧ (n = 0 ∧ GenSince cenv.locals wr s₀ s₁)) (genProto cenv.locals fp wr pz n₀ F) (passing pz n₀ 0).length s₀
      (.compStart (gxG elt iter ts ifs kt pt pos scope) 0 (.ref I) .none cenv) ((model prog w).den (.compStart (gxG elt iter ts ifs kt pt pos scope) 0 (.ref I) .none cenv)) [] s := by
  have oh : (A.over (.compStart (gxG elt iter ts ifs kt pt pos scope) 0 (.ref I) .none cenv) []).handled = none := hh
  have loop := loopG (iter := iter) (pt := pt) (kt := kt) (scope := scope) (pos := pos) hh W₀ hsz hst pz F href hco hCf hq n₀ 0 s₀ s m (Nat.sub_zero _) (Nat.zero_le _) st hn since kp
  show Seg _ A _ _ _ s₀ _ ((compStart (gxG elt iter ts ifs kt pt pos scope) 0 (.ref I) .none cenv).onRaise (leaving cenv)) [] s
  unfold compStart
  rw [Sem.onRaise_eq_wrap]
  show Seg _ A _ _ _ s₀ _ ((ask >>= _).wrap _ _ _ _) [] s
  refine seg_bind_wrap (wpAny_askSetting ?_)
  split
  · exact seg_again rfl loop
  · first
      | exact seg_bind_wrap (wpAny_rule (seg_bind_wrap (wpAny_standAt (seg_bind_wrap ((W₀ _ oh).self 0 s _ _ st (seg_again rfl loop))))))
      | (refine seg_bind_wrap (wpAny_rule ?_); show Seg _ A _ _ _ s₀ _ ((standAt iter.pos >>= _).wrap _ _ _ _) [] s; exact seg_bind_wrap (wpAny_standAt (seg_bind_wrap ((W₀ _ oh).self 0 s _ _ st (seg_again rfl loop)))))
theorem freshG (hh : A.handled = none) (W₀ : ∀ B : Around, B.handled = none → WalksU prog w B I fp wr n₀ Pt St₀ Mid) (hsz : ∀ i vs, Pt i vs → (assignEach ts cenv).length = vs.size) (hst : (assignEach ts cenv).findIdx? (·.1) = none) (pz : Nat → Bool) (F : Nat → Value → Prop)
    (hco : cenv.scope.isCoroutine = false) (hCf : cenv.locals ∉ fp) {a : Addr} {g : Nat} {s : Shared} {m : Str → Option Value} (hq : TurnsG prog w cenv ts ifs elt fp wr Pt M pz F s.heap (A.depth + 1) (A.units + 4)) (hg : s.heap.IsGen a g)
    (hgs : s.gens[g]? = some (.fresh (.compStart (gxG elt iter ts ifs kt pt pos scope) 0 (.ref I) .none cenv))) (st : St₀ 0 s.heap) (hn : s.heap.Ns cenv.locals m) (hl : s.heap.NoLimit) : GenAt prog w A a g cenv.locals fp wr pz n₀ F 0 s :=
  ⟨hg, hl, _, hgs, fun s'' al => ⟨rfl, startG (A := A.in1) hh W₀ hsz hst pz F s.heap hco hCf hq s'' s'' m ((W₀ A hh).frame _ _ _ st fun b hb o e => al b (List.mem_cons_of_mem _ hb) o e) (hn.at' fun o e => al _ (List.mem_cons_self ..) o e) (GenSince.refl _ _ _)
    fun b hb _ o e => al b (List.mem_cons_of_mem _ hb) o e⟩⟩
end
section
variable {E : Value → Shared → Prop} {s : Shared}
/-- the generator made -/
theorem genExpG {env : Env} {elt iter : Expr} {ts ifs : List Expr} {kt : Nat} {pt pos : Pos} {scope : Scope} {cl : List (Str × Addr)} {Q : Value → Shared → Prop}
    (hh : A.handled = none) (hco : scope.isCoroutine = false) (hclos : closureFor scope env = pure cl) (hcell : ∀ y ∈ scope.names, y.2 ≠ .cell) (h0 : scope.names.lookup (".0" : Str) = some NameKind.local) (hkind : scope.kind = .function) (hroom : A.depth < recursionLimit)
    (hlen : ∀ cenv, (assignEach ts cenv).findIdx? (·.1) = none)
    (h : wpAny (model prog w) A (eval iter env) (fun xv s1 => wpAny (model prog w) A (pyIter xv) (fun it s2 => s2.heap.NoLimit ∧
      wpAny (model prog w) A (genexprCode env pos (env.qual ++ "<genexpr>") scope) (fun code s3 => wpAny (model prog w) A (builtinsFor env.globals env.builtins) (fun bi s4 =>
        ∃ I fp wr n₀ Pt St₀ Mid pz F M, it = .ref I ∧ (∀ B : Around, B.handled = none → WalksU prog w B I fp wr n₀ Pt St₀ Mid) ∧ (∀ cenv i vs, Pt i vs → (assignEach ts cenv).length = vs.size) ∧ St₀ 0 s4.heap ∧ (∀ b ∈ fp, b < s4.heap.objs.size) ∧ s4.heap.NoLimit ∧ cStatics ∉ wr ∧
          (∀ href : Heap, (∀ b o, s4.heap.get? b = some o → href.get? b = some o) →
            TurnsG prog w (genEnv scope cl s4.heap.objs.size code bi env) ts ifs elt (List.range s4.heap.objs.size) wr Pt M pz F href (A.depth + 1) (A.units + 8)) ∧
          (∀ a h5 tk gs, gs.bare = true → s4.heap.objs.size < a → h5.objs.size = a + 1 → (∀ b o, s4.heap.get? b = some o → h5.get? b = some o) →
            WalksS prog w A.in4 a (a :: s4.heap.objs.size :: List.range s4.heap.objs.size) (s4.heap.objs.size :: wr) (GenOnlyQ s4.gens.size) (passing pz n₀ 0).length
              (fun j y => ∃ i, (passing pz n₀ 0)[j]? = some i ∧ F i y) (GenAt prog w A.in4 a s4.gens.size s4.heap.objs.size (List.range s4.heap.objs.size) wr pz n₀ F) →
            GenAt prog w A.in4 a s4.gens.size s4.heap.objs.size (List.range s4.heap.objs.size) wr pz n₀ F 0 { s4 with gens := s4.gens.push gs, toks := tk, heap := h5 } →
            Q (.ref a) { s4 with gens := s4.gens.push gs, toks := tk, heap := h5 })) E s3) E s2) E s1) E s)
    (hs : ∀ x, genFold iter env x = pure x) : wpAny (model prog w) A (eval (gxG elt iter ts ifs kt pt pos scope) env) Q E s := by
  refine wpAny_GeneratorExp_make hco hclos hcell h0 hkind hroom (wpAny_mono h (fun xv s1 h1 => wpAny_mono h1 (fun it s2 h2 => ⟨h2.1, wpAny_mono h2.2 (fun code s3 h3 => wpAny_mono h3 (fun bi s4 h4 => ?_) fun _ _ e => e) fun _ _ e => e⟩) fun _ _ e => e) fun _ _ e => e) hs
  obtain ⟨I, fp, wr, n₀, Pt, St₀, Mid, pz, F, M, rfl, W₀, hsz2, st, hfp, hl4, hcw, hq, hQ⟩ := h4
  have clt : cStatics < s4.heap.objs.size := let ⟨_, hn, _⟩ := hl4; hn.lt
  intro h' hn' hs'
  have sz : h'.objs.size = s4.heap.objs.size + 1 := by rw [hs'.1, Heap.size_push]
  have k4 : ∀ b o, s4.heap.get? b = some o → h'.get? b = some o := fun b o e => hs'.extBut b o (Nat.ne_of_lt (Heap.lt_size e)) (Heap.get?_push_of_some _ e)
  have sub : ∀ b ∈ wr, b ∈ List.range s4.heap.objs.size := fun b hb => List.mem_range.mpr (hfp b ((W₀ A hh).sub b hb))
  have aC : h'.objs.size ≠ s4.heap.objs.size := by rw [sz]; exact Nat.succ_ne_self _
  have af : h'.objs.size ∉ List.range s4.heap.objs.size := fun hm => by have := List.mem_range.mp hm; omega
  have k5 : ∀ b o, s4.heap.get? b = some o → (h'.push { cls := .type "generator", data := .fields #[.int s4.gens.size 0, .str "<genexpr>" (s4.toks + 1), .str (env.qual ++ "<genexpr>") (s4.toks + 1 + 1)] }).get? b = some o :=
    fun b o e => Heap.get?_push_of_some _ (k4 b o e)
  refine hQ _ _ _ _ rfl (by omega) (by rw [Heap.size_push]) k5 (WalksS.genexpQ (A := A.in4) hh _ _ _ _ wr pz n₀ F aC af sub hroom (List.mem_range.mpr clt) (Nat.ne_of_lt clt) hcw) ?_
  exact freshG (A := A.in4) (cenv := genEnv scope cl s4.heap.objs.size code bi env) (m := fun y => if y = ".0" then some (.ref I) else none) hh (fun B hB => (W₀ B hB).mono_fp fun b hb => List.mem_range.mpr (hfp b hb)) (hsz2 _) (hlen _) pz F hco
    (fun hm => Nat.lt_irrefl _ (List.mem_range.mp hm)) (hq _ k5) ⟨_, _, _, Heap.get?_push_size _ rfl, rfl, rfl, rfl⟩ (Array.getElem?_push_size ..) ((W₀ A hh).frame _ _ _ st fun b _ o e => k5 b o e) (hn'.push _) (hl4.keeps k5)
end
end
end Bk

/-! BkCore: a small total evaluator of Python defs over plain data (D), with regions of mutable objects. -/
namespace Bk
open PySem PySem.Spec PyProof.Rows L2

/-- a value: plain data (tuples, lists that nobody changes any more), or a place of a changeable object -/
inductive D where
  | non | bl (b : Bool) | int (i : Int) | str (x : Str) | ty (n : String)
  | tup (xs : List D) | lst (xs : List D) | scr (xs : List Int)
  | loc (l k : Nat)
  deriving Inhabited

/-- a changeable object -/
inductive Ob where
  | dead
  | lst (xs : List D)
  /-- a dict: its keys are ints and texts, or tuples of ints -/
  | dk (kvs : List (Key × D)) | dt (kvs : List (List Int × D))
  deriving Inhabited

/-- regions, the youngest first -/
abbrev Hs := List (List Ob)

structure Exn where
  cls : Str
  fs : List (Str × D)
  deriving Inhabited

inductive Res (α : Type) where
  | ok (a : α) (h : Hs)
  | exc (e : Exn) (h : Hs)
  | bad
  deriving Inhabited

abbrev Sl := List (Option D)

inductive Out where
  | next (s : Sl) (h : Hs)
  | ret (d : D) (h : Hs)
  | brk (s : Sl) (h : Hs)
  | cont (s : Sl) (h : Hs)
  | exc (e : Exn) (s : Sl) (h : Hs)
  | bad
  deriving Inhabited

def Res.bind {α β : Type} (r : Res α) (f : α → Hs → Res β) : Res β := match r with
  | .ok a h => f a h
  | .exc e h => .exc e h
  | .bad => .bad
def Res.out {α : Type} (r : Res α) (s : Sl) (f : α → Hs → Out) : Out := match r with
  | .ok a h => f a h
  | .exc e h => .exc e s h
  | .bad => .bad
def Out.seq (o : Out) (f : Sl → Hs → Out) : Out := match o with
  | .next s h => f s h
  | .ret d h => .ret d h
  | .brk s h => .brk s h
  | .cont s h => .cont s h
  | .exc e s h => .exc e s h
  | .bad => .bad

@[simp] theorem Res.bind_ok {α β : Type} (a : α) (h : Hs) (f : α → Hs → Res β) : (Res.ok a h).bind f = f a h := id rfl
@[simp] theorem Res.bind_exc {α β : Type} (e : Exn) (h : Hs) (f : α → Hs → Res β) : (Res.exc e h : Res α).bind f = .exc e h := id rfl
@[simp] theorem Res.bind_bad {α β : Type} (f : α → Hs → Res β) : (Res.bad : Res α).bind f = .bad := id rfl
@[simp] theorem Res.out_ok {α : Type} (a : α) (h : Hs) (s : Sl) (f : α → Hs → Out) : (Res.ok a h).out s f = f a h := id rfl
@[simp] theorem Res.out_exc {α : Type} (e : Exn) (h : Hs) (s : Sl) (f : α → Hs → Out) : (Res.exc e h : Res α).out s f = .exc e s h := id rfl
@[simp] theorem Res.out_bad {α : Type} (s : Sl) (f : α → Hs → Out) : (Res.bad : Res α).out s f = .bad := id rfl
@[simp] theorem Out.seq_next (s : Sl) (h : Hs) (f : Sl → Hs → Out) : (Out.next s h).seq f = f s h := id rfl
@[simp] theorem Out.seq_ret (d : D) (h : Hs) (f : Sl → Hs → Out) : (Out.ret d h).seq f = .ret d h := id rfl
@[simp] theorem Out.seq_brk (s : Sl) (h : Hs) (f : Sl → Hs → Out) : (Out.brk s h).seq f = .brk s h := id rfl
@[simp] theorem Out.seq_cont (s : Sl) (h : Hs) (f : Sl → Hs → Out) : (Out.cont s h).seq f = .cont s h := id rfl
@[simp] theorem Out.seq_exc (e : Exn) (s : Sl) (h : Hs) (f : Sl → Hs → Out) : (Out.exc e s h).seq f = .exc e s h := id rfl
@[simp] theorem Out.seq_bad (f : Sl → Hs → Out) : Out.bad.seq f = .bad := id rfl

/-! ### regions -/
def gt {β : Type} : List (List β) → Nat → Nat → Option β
  | [], _, _ => none
  | top :: rest, l, k => if l = rest.length then top[k]? else gt rest l k
def pt {β : Type} : List (List β) → Nat → Nat → β → List (List β)
  | [], _, _, _ => []
  | top :: rest, l, k, o => if l = rest.length then top.set k o :: rest else top :: pt rest l k o

/-! ### which places a value may hold -/
mutual
/-- all places lie in regions below n -/
def D.ok (n : Nat) : D → Bool
  | .loc l _ => decide (l < n)
  | .tup xs => D.oks n xs
  | .lst xs => D.oks n xs
  | _ => true
def D.oks (n : Nat) : List D → Bool
  | [] => true
  | x :: xs => D.ok n x && D.oks n xs
end
def Ob.ok (n : Nat) : Ob → Bool
  | .dead => true
  | .lst xs => D.oks n xs
  | .dk kvs => D.oks n (kvs.map (·.2))
  | .dt kvs => D.oks n (kvs.map (·.2))

mutual
/-- the data as the library's (no place within) -/
def D.py : D → Option PyData
  | .non => some .none
  | .bl b => some (.bool b)
  | .int i => some (.int i)
  | .str x => some (.str x)
  | .tup xs => (D.pys xs).map .tuple
  | .lst xs => (D.pys xs).map .list
  | _ => none
def D.pys : List D → Option (List PyData)
  | [] => some []
  | x :: xs => (D.py x).bind fun a => (D.pys xs).map fun as => a :: as
end

mutual
/-- .. and back -/
def D.un : PyData → D
  | .none => .non
  | .bool b => .bl b
  | .int i => .int i
  | .str x => .str x
  | .tuple xs => .tup (D.uns xs)
  | .list xs => .lst (D.uns xs)
  | .dict _ => .non
def D.uns : List PyData → List D
  | [] => []
  | x :: xs => D.un x :: D.uns xs
end
mutual
theorem D.un_py : ∀ {d : D} {p : PyData}, d.py = some p → D.un p = d
  | .non, _, e => by cases e; rfl
  | .bl _, _, e => by cases e; rfl
  | .int _, _, e => by cases e; rfl
  | .str _, _, e => by cases e; rfl
  | .tup xs, _, e => by
    obtain ⟨ps, e1, rfl⟩ := Option.map_eq_some_iff.mp (show (D.pys xs).map PyData.tuple = some _ from e)
    show D.tup (D.uns ps) = _
    rw [D.uns_pys e1]
  | .lst xs, _, e => by
    obtain ⟨ps, e1, rfl⟩ := Option.map_eq_some_iff.mp (show (D.pys xs).map PyData.list = some _ from e)
    show D.lst (D.uns ps) = _
    rw [D.uns_pys e1]
  | .ty _, _, e => by cases e
  | .scr _, _, e => by cases e
  | .loc _ _, _, e => by cases e
theorem D.uns_pys : ∀ {ds : List D} {ps : List PyData}, D.pys ds = some ps → D.uns ps = ds
  | [], _, e => by cases e; rfl
  | x :: xs, _, e => by
    obtain ⟨p, e1, e2⟩ := Option.bind_eq_some_iff.mp (show ((D.py x).bind fun a => (D.pys xs).map fun as => a :: as) = some _ from e)
    obtain ⟨ps, e3, rfl⟩ := Option.map_eq_some_iff.mp e2
    show D.un p :: D.uns ps = _
    rw [D.un_py e1, D.uns_pys e3]
end
/-- the list at a place -/
def cur (h : Hs) (l k : Nat) : Option (List D) := match gt h l k with
  | some (.lst xs) => some xs
  | _ => none
theorem cur_iff {h : Hs} {l k : Nat} {xs : List D} : cur h l k = some xs ↔ gt h l k = some (.lst xs) := by
  unfold cur
  constructor
  · intro e
    split at e
    · cases e; assumption
    · cases e
  · intro e
    rw [e]
@[simp] theorem cur_of {h : Hs} {l k : Nat} {xs : List D} (e : gt h l k = some (.lst xs)) : cur h l k = some xs := cur_iff.mpr e
/-- the list at a place, as one that nobody changes (for the moment) -/
def D.now (h : Hs) : D → D
  | .loc l k => match cur h l k with
    | some xs => .lst xs
    | none => .loc l k
  | d => d
/-- the items of a list (frozen or not) or the script -/
def D.items (h : Hs) : D → Option (List D)
  | .loc l k => cur h l k
  | .lst xs => some xs
  | .scr ns => some (ns.map .int)
  | _ => none
/-- the items of a list or a tuple -/
def D.seq (h : Hs) : D → Option (List D)
  | .tup xs => some xs
  | d => d.items h

/-! ### new lists -/
def mkL (b : Bool) (xs : List D) (h : Hs) : Res D :=
  if xs.length ≤ sizeLine then
    if b then match h with
      | top :: rest => .ok (.loc rest.length top.length) ((top ++ [.lst xs]) :: rest)
      | [] => .bad
    else .ok (.lst xs) h
  else .bad
def mkT (xs : List D) (h : Hs) : Res D := if xs.length ≤ sizeLine then .ok (.tup xs) h else .bad
/-- an object is written: what it is to hold lies in its region or below -/
def wr (l k : Nat) (o : Ob) (h : Hs) (f : Hs → Res D) : Res D := if o.ok (l + 1) then f (pt h l k o) else .bad

/-! ### operators -/
def truth (d : D) (h : Hs) : Option Bool := match d with
  | .non => some false
  | .bl b => some b
  | .int i => some (i != 0)
  | .str x => if x.length ≤ sizeLine then some ((x.length : Int) != 0) else none
  | .tup xs => some (!xs.isEmpty)
  | d => (d.items h).map fun xs => !xs.isEmpty
def truthR (d : D) (h : Hs) : Res Bool := match truth d h with
  | some b => .ok b h
  | none => .bad

def intOp (op : Operator) (i j : Int) : Option Int := match op with
  | .Add => some (i + j)
  | .Sub => some (i - j)
  | .Mult => if (-(2 ^ 64) < i ∧ i < 2 ^ 64) ∨ (-(2 ^ 64) < j ∧ j < 2 ^ 64) then some (i * j) else none
  | .FloorDiv => if j ≠ 0 ∧ j.natAbs < 1073741824 then some (i.fdiv j) else none
  | .Mod => if j ≠ 0 then some (i.fmod j) else none
  | .Pow => if 0 ≤ j ∧ j ≤ 1000000 ∧ i.natAbs < 2 ^ 64 then some (i ^ j.toNat) else none
  | .LShift => if 0 ≤ j ∧ j ≤ 1000000 ∧ i.natAbs < 2 ^ 64 then some (i * 2 ^ j.toNat) else none
  | .RShift => if 0 ≤ j then some (i / 2 ^ j.toNat) else none
  | .BitAnd => some (Builtin.bitAnd i j)
  | .BitOr => some (Builtin.bitOr i j)
  | .BitXor => some (Builtin.bitXor i j)
  | _ => none
/-- a list that may be a part of + and * (the script may not) -/
def D.own (h : Hs) : D → Option (List D)
  | .lst xs => some xs
  | .loc l k => cur h l k
  | _ => none
def binD (b : Bool) (op : Operator) (x y : D) (h : Hs) : Res D := match x, y with
  | .int i, .int j => match intOp op i j with
    | some k => .ok (.int k) h
    | none => .bad
  | .str x, .str y => match op with
    | .Add => if x.length + y.length ≤ sizeLine then .ok (.str (x ++ y)) h else .bad
    | _ => .bad
  | .int i, .bl k => match op with
    | .Add => .ok (.int (i + b2i k)) h
    | _ => .bad
  | .tup xs, .tup ys => match op with
    | .Add => if xs.length + ys.length ≤ sizeLine then .ok (.tup (xs ++ ys)) h else .bad
    | _ => .bad
  | .tup xs, .int k => match op with
    | .Mult => if 2 ≤ k ∧ k ≤ 1000 ∧ xs ≠ [] ∧ xs.length ≤ 1000 then .ok (.tup (List.replicate k.toNat xs).flatten) h else if k = 1 then .ok (.tup xs) h else if -1000 ≤ k ∧ k ≤ 0 ∧ xs ≠ [] then .ok (.tup []) h else .bad
    | _ => .bad
  | x, .int k => match op, x.own h with
    | .Mult, some xs => if -(2 ^ 63) ≤ k ∧ k < 2 ^ 63 ∧ xs.length * k.toNat ≤ sizeLine then mkL b (List.replicate k.toNat xs).flatten h else .bad
    | _, _ => .bad
  | x, y => match op, x.own h, y.own h with
    | .Add, some xs, some ys => if xs.length + ys.length ≤ sizeLine then mkL b (xs ++ ys) h else .bad
    | _, _, _ => .bad
def negD (x : D) (h : Hs) : Res D := match x with
  | .int i => .ok (.int (-i)) h
  | _ => .bad

/-! ### dicts -/
def keyK : D → Option Key
  | .int i => some (.inl i)
  | .str x => some (.inr x)
  | _ => none
def D.intsT : List D → Option (List Int)
  | [] => some []
  | .int i :: r => (D.intsT r).map fun is => i :: is
  | _ => none
def keyT : D → Option (List Int)
  | .tup ds => D.intsT ds
  | _ => none
def vAt {κ : Type} [DecidableEq κ] (kvs : List (κ × D)) (k : κ) : Option D := (kvs.find? fun p => decide (p.1 = k)).map (·.2)
def vPut {κ : Type} [DecidableEq κ] (kvs : List (κ × D)) (k : κ) (v : D) : List (κ × D) := if (vAt kvs k).isSome then kvs.map fun p => if p.1 = k then (p.1, v) else p else kvs ++ [(k, v)]
def Ob.isDc : Ob → Bool
  | .dk _ => true
  | .dt _ => true
  | _ => false
def dcLook (o : Ob) (d : D) : Option (Option D) := match o with
  | .dk kvs => (keyK d).map (vAt kvs)
  | .dt kvs => (keyT d).map (vAt kvs)
  | _ => none
def dcPut (o : Ob) (d v : D) : Option Ob := match o with
  | .dk kvs => if kvs.length < sizeLine then (keyK d).map fun k => .dk (vPut kvs k v) else none
  | .dt kvs => if kvs.length < sizeLine then (keyT d).map fun k => .dt (vPut kvs k v) else none
  | _ => none
/-- what stands at a dict's place -/
def dcAt (x : D) (h : Hs) : Option (Nat × Nat × Ob) := match x with
  | .loc l k => match gt h l k with
    | some o => if o.isDc then some (l, k, o) else none
    | none => none
  | _ => none
def dixD (x y : D) (h : Hs) : Res D := match dcAt x h with
  | some (_, _, o) => match dcLook o y with
    | some (some v) => .ok v h
    | _ => .bad
  | none => .bad
def dsetD (x y v : D) (h : Hs) : Res D := match dcAt x h with
  | some (l, k, o) => match dcPut o y v with
    | some o' => wr l k o' h fun h' => .ok .non h'
    | none => .bad
  | none => .bad
/-- methods of dicts -/
inductive Dm where
  | get | setdefault
  deriving DecidableEq, Inhabited
def dmD (m : Dm) (x : D) (as : List D) (h : Hs) : Res D := match dcAt x h with
  | some (l, k, o) => match m, as with
    | .get, [y] => match dcLook o y with
      | some r => .ok (r.getD .non) h
      | none => .bad
    | .get, [y, z] => match dcLook o y with
      | some r => .ok (r.getD z) h
      | none => .bad
    | .setdefault, [y, z] => match dcPut o y z with
      | some o' => match dcLook o y with
        | some (some v) => .ok v h
        | some none => wr l k o' h fun h' => .ok z h'
        | none => .bad
      | none => .bad
    | _, _ => .bad
  | none => .bad
/-- is a key there -/
def dinD (x y : D) (h : Hs) : Option Bool := match dcAt y h with
  | some (_, _, o) => (dcLook o x).map Option.isSome
  | none => none
/-- == of data -/
def eqD (x y : D) (h : Hs) : Option Bool := match (x.now h).py, (y.now h).py with
  | some p, some q => if SeqAt.shaped p = true ∧ SeqAt.shaped q = true then some (PyData.eqv p q) else none
  | _, _ => none
def D.ints : List D → Option (List Int)
  | [] => some []
  | .int i :: r => (D.ints r).map fun is => i :: is
  | _ => none
def inD (x y : D) (h : Hs) : Option Bool := match x, y with
  | .str a, .str b => some (!(Builtin.Str.occurrences b a 0 b.length 1).isEmpty)
  | x, .tup ys => match (x.now h).py, D.pys ys with
    | some p, some qs => if SeqAt.shaped p = true ∧ SeqAt.shaped (.tuple qs) = true then some (qs.any fun z => PyData.eqv z p) else none
    | _, _ => none
  | x, y => match (x.now h).py, (y.own h).bind D.pys with
    | some p, some qs => if SeqAt.shaped p = true ∧ SeqAt.shaped (.list qs) = true then some (qs.any fun z => PyData.eqv z p) else none
    | _, _ => dinD x y h
def isD (x y : D) : Option Bool := match x, y with
  | .bl a, .bl b => some (decide (a = b))
  | .non, .non => some true
  | .loc .., .non => some false
  | .tup _, .non => some false
  | .lst _, .non => some false
  | .scr _, .non => some false
  | .int _, .non => some false
  | .str _, .non => some false
  | .bl _, .non => some false
  | _, _ => none
/-- data that are alike, place by place -/
def notNon : PyData → Bool
  | .none => false
  | _ => true
def ltA (f : PyData → PyData → Bool) (x y : D) (h : Hs) : Option Bool := match (x.now h).py, (y.now h).py with
  | some p, some q => if PySem.W.alike p q = true ∧ notNon p = true ∧ p.depth ≤ 60 then some (f p q) else none
  | _, _ => none
def cmpD (op : CmpOp) (x y : D) (h : Hs) : Option Bool := match op with
  | .Eq => eqD x y h
  | .NotEq => (eqD x y h).map (!·)
  | .Is => isD x y
  | .IsNot => (isD x y).map (!·)
  | .In => inD x y h
  | .NotIn => (inD x y h).map (!·)
  | .Lt => match x, y with
    | .int i, .int j => some (decide (i < j))
    | .str i, .str j => some (decide (i.cps.toList < j.cps.toList))
    | .tup xs, .tup ys => match D.ints xs, D.ints ys with
      | some a, some b => some (HT.lexLt a b)
      | _, _ => ltA PySem.W.dataLt (.tup xs) (.tup ys) h
    | x, y => ltA PySem.W.dataLt x y h
  | .LtE => match x, y with
    | .int i, .int j => some (decide (i ≤ j))
    | x, y => ltA (fun p q => !PySem.W.dataLt q p) x y h
  | .Gt => match x, y with
    | .int i, .int j => some (decide (j < i))
    | x, y => ltA (fun p q => PySem.W.dataLt q p) x y h
  | .GtE => match x, y with
    | .int i, .int j => some (decide (j ≤ i))
    | x, y => ltA (fun p q => !PySem.W.dataLt p q) x y h
def cmpR (op : CmpOp) (x y : D) (h : Hs) : Res D := match cmpD op x y h with
  | some b => .ok (.bl b) h
  | none => .bad

/-! ### places -/
def ixD (x y : D) (h : Hs) : Res D := match y with
  | .int i => match x with
    | .str z => if z.length ≤ sizeLine then match atI z.cps.toList i with
        | some c => .ok (.str ⟨#[c]⟩) h
        | none => .bad
      else .bad
    | x => match (x.seq h).bind fun xs => atI xs i with
      | some v => .ok v h
      | none => .bad
  | _ => .bad
def cutD (xs : List D) (lo hi : Option Int) : List D := (xs.drop (HT.sIx xs.length 0 lo)).take (HT.sIx xs.length xs.length hi - HT.sIx xs.length 0 lo)
def slD (b : Bool) (x : D) (lo hi : Option Int) (h : Hs) : Res D := match x with
  | .tup xs => .ok (.tup (cutD xs lo hi)) h
  | x => match x.items h with
    | some xs => mkL b (cutD xs lo hi) h
    | none => .bad
/-- xs[::-1] of a list -/
def revD (b : Bool) (x : D) (h : Hs) : Res D := match x.items h with
  | some xs => mkL b xs.reverse h
  | none => .bad
def isM1 : Expr → Bool
  | .UnaryOp .USub (.Constant (.int 1) _ _) _ => true
  | _ => false
def setD (o i v : D) (h : Hs) : Res D := match o, i with
  | .loc l k, .int n => match cur h l k with
    | some xs => match ixN xs.length n with
      | some j => wr l k (.lst (xs.set j v)) h fun h' => .ok .non h'
      | none => .bad
    | none => .bad
  | _, _ => .bad

/-- a place of a changeable list -/
def ixL (x y : D) (h : Hs) : Res D := match x, y with
  | .loc l k, .int i => match (cur h l k).bind fun xs => atI xs i with
    | some v => .ok v h
    | none => .bad
  | _, _ => .bad

/-! ### built-in functions -/
inductive Blt where
  | len | abs | max | min | int | bool | str | sum | all | any | sorted | list | tuple | isinstance | repr
  deriving DecidableEq, Inhabited
def bools : List D → Option (List Bool)
  | [] => some []
  | .bl b :: r => (bools r).map fun bs => b :: bs
  | _ => none
def maxI : List Int → Int
  | [] => 0
  | x :: r => r.foldl (fun a b => if b > a then b else a) x
def minI : List Int → Int
  | [] => 0
  | x :: r => r.foldl (fun a b => if b < a then b else a) x
/-- insertion, for sorted -/
def insI (x : Int) : List Int → List Int
  | [] => [x]
  | y :: r => if x ≤ y then x :: y :: r else y :: insI x r
def sortI : List Int → List Int
  | [] => []
  | x :: r => insI x (sortI r)
def isNeTup : PyData → Bool
  | .tuple (_ :: _) => true
  | _ => false
def noTup : PyData → Bool
  | .none => false
  | .tuple _ => false
  | _ => true
/-- may these be sorted -/
def srtOk (ps : List PyData) : Bool := (ps.all fun p => ps.all fun q => PySem.W.alike p q) && (ps.all isNeTup || ps.all noTup) && (ps.all fun p => decide (p.depth ≤ 60)) && decide (ps.length ≤ sizeLine)
def srtL {β : Type} (xs : List β) (ps : List PyData) : List β := ((xs.zip ps).mergeSort (PySem.W.dataLe false (·.2))).map (·.1)
def tyD (x : D) (h : Hs) : Option String := match x with
  | .non => some "NoneType"
  | .bl _ => some "bool"
  | .int _ => some "int"
  | .str _ => some "str"
  | .tup _ => some "tuple"
  | .lst _ => some "list"
  | .scr _ => some "list"
  | .loc l k => (cur h l k).map fun _ => "list"
  | _ => none
/-- is a value of the type t one of T -/
def isTy (t T : String) : Option Bool :=
  if ["NoneType", "bool", "int", "str", "tuple", "list"].contains t && ["bool", "int", "str", "tuple", "list"].contains T then some (t == T || (t == "bool" && T == "int")) else none
def isTys (t : String) : List D → Option Bool
  | [] => some false
  | .ty T :: r => (isTy t T).bind fun b => (isTys t r).map fun c => b || c
  | _ => none
/-- the least or the greatest of alike data -/
def best (mx : Bool) (p : PyData) (ps : List PyData) : PyData := if mx then PySem.W.maxD p ps else PySem.W.minD p ps
def isNonP : PyData → Bool
  | .none => true
  | _ => false
def mmOk (ps : List PyData) : Bool := (ps.all fun x => ps.all fun y => PySem.W.alike x y) && (ps.all fun x => !isNonP x) && decide (PyData.depthAll ps ≤ 60)
def mmD (mx : Bool) (xs : List D) (h : Hs) : Res D := match D.pys xs with
  | some (p :: ps) => if mmOk (p :: ps) then .ok (D.un (best mx p ps)) h else .bad
  | _ => .bad
def bltD (b : Bool) (k : Blt) (xs : List D) (h : Hs) : Res D := match k, xs with
  | .len, [x] => match x with
    | .str z => if z.length ≤ sizeLine then .ok (.int z.length) h else .bad
    | x => match x.seq h with
      | some ys => .ok (.int ys.length) h
      | none => .bad
  | .abs, [.int i] => .ok (.int (if i < 0 then -i else i)) h
  | .max, [.int i, .int j] => .ok (.int (if j > i then j else i)) h
  | .min, [.int i, .int j] => .ok (.int (if j < i then j else i)) h
  | .max, [x] => match (x.items h).bind D.ints with
    | some (i :: r) => .ok (.int (maxI (i :: r))) h
    | _ => match x.seq h with
      | some xs => mmD true xs h
      | none => .bad
  | .min, [x] => match (x.items h).bind D.ints with
    | some (i :: r) => .ok (.int (minI (i :: r))) h
    | _ => match x.seq h with
      | some xs => mmD false xs h
      | none => .bad
  | .int, [.int i] => .ok (.int i) h
  | .int, [.bl k] => .ok (.int (if k then 1 else 0)) h
  | .bool, [.int i] => .ok (.bl (i != 0)) h
  | .bool, [.bl k] => .ok (.bl k) h
  | .str, [.int i] => if i.natAbs.log2 < 1920 then .ok (.str (toString i)) h else .bad
  | .sum, [x] => match (x.items h).bind D.ints with
    | some is => .ok (.int is.sum) h
    | none => match x with
      | .tup xs => match D.ints xs with
        | some is => .ok (.int is.sum) h
        | none => .bad
      | _ => .bad
  | .all, [x] => match (x.items h).bind bools with
    | some bs => .ok (.bl (bs.all id)) h
    | none => .bad
  | .any, [x] => match (x.items h).bind bools with
    | some bs => .ok (.bl (bs.any id)) h
    | none => .bad
  | .sorted, [x] => match (x.items h).bind D.ints with
    | some is => mkL b ((sortI is).map .int) h
    | none => match x.items h with
      | some ys => match D.pys ys with
        | some ps => if srtOk ps = true then mkL b (srtL ys ps) h else .bad
        | none => .bad
      | none => match dcAt x h with
        | some (_, _, .dt kvs) => if srtOk (kvs.map fun p => .tuple (p.1.map .int)) = true then mkL b (srtL (kvs.map fun p => .tup (p.1.map .int)) (kvs.map fun p => .tuple (p.1.map .int))) h else .bad
        | _ => .bad
  | .list, [x] => match x.seq h with
    | some ys => mkL b ys h
    | none => .bad
  | .tuple, [x] => match x with
    | .tup ys => .ok (.tup ys) h
    | x => match x.items h with
      | some ys => .ok (.tup ys) h
      | none => .bad
  | .isinstance, [x, c] => match tyD x h, c with
    | some t, .ty T => match isTy t T with
      | some r => .ok (.bl r) h
      | none => .bad
    | _, _ => .bad
  | .repr, [x] => match x with
    | .bl b => .ok (.str (if b then "True" else "False")) h
    | .int i => if i.natAbs.log2 < 1920 then .ok (.str (toString i)) h else .bad
    | .non => .ok (.str "None") h
    | _ => .bad
  | _, _ => .bad

/-! ### methods of built-in types -/
inductive Mth where
  | append | pop | index | extend | insert | reverse
  deriving DecidableEq, Inhabited
/-- the first place at which f holds -/
def fstAt (f : PyData → Bool) : List PyData → Option Nat
  | [] => none
  | x :: r => if f x then some 0 else (fstAt f r).map (· + 1)
def mthD (m : Mth) (x : D) (as : List D) (h : Hs) : Res D := match x with
  | .loc l k => match cur h l k with
    | some xs => match m, as with
      | .append, [y] => if xs.length < sizeLine then wr l k (.lst (xs ++ [y])) h fun h' => .ok .non h' else .bad
      | .pop, [] => match xs[xs.length - 1]? with
        | some y => wr l k (.lst xs.dropLast) h fun h' => .ok y h'
        | none => .bad
      | .pop, [.int i] => if -(2 ^ 63) ≤ i ∧ i < 2 ^ 63 then match seqIndex? i xs.length with
          | some j => match xs[j]? with
            | some y => wr l k (.lst (xs.eraseIdx j)) h fun h' => .ok y h'
            | none => .bad
          | none => .bad
        else .bad
      | .reverse, [] => wr l k (.lst xs.reverse) h fun h' => .ok .non h'
      | .insert, [.int i, y] => if 0 ≤ i ∧ i < 2 ^ 63 ∧ xs.length < sizeLine then wr l k (.lst (xs.take i.toNat ++ [y] ++ xs.drop i.toNat)) h fun h' => .ok .non h' else .bad
      | .index, [y] => match (y.now h).py, D.pys xs with
        | some p, some qs => if SeqAt.shaped p = true ∧ SeqAt.shaped (.list qs) = true then match fstAt (fun z => PyData.eqv z p) qs with
            | some j => .ok (.int j) h
            | none => .bad
          else .bad
        | _, _ => .bad
      | _, _ => .bad
    | none => .bad
  | .lst xs => match m, as with
    | .index, [y] => match (y.now h).py, D.pys xs with
      | some p, some qs => if SeqAt.shaped p = true ∧ SeqAt.shaped (.list qs) = true then match fstAt (fun z => PyData.eqv z p) qs with
          | some j => .ok (.int j) h
          | none => .bad
        else .bad
      | _, _ => .bad
    | _, _ => .bad
  | _ => .bad

/-! ### names -/
structure DefR where
  st : Stmt
  ps : List Str
  nm : List Str
  /-- it lays its new objects into its caller's region -/
  share : Bool := false
  /-- it makes generators: its code object's table is known -/
  gen : Bool := false
  deriving Inhabited

/-- an own exception class: its fields with the places of their parameters, the number of __init__'s parameters, the own classes above it (itself, too) -/
structure ExcR where
  fi : List (Str × Nat)
  n : Nat
  ups : List Str
  /-- is an exception of this class one of the own class ..? -/
  isa : List (Str × Bool) := []
  deriving Inhabited

structure Cfg where
  defs : List (Str × DefR)
  globs : List (Str × D)
  /-- where new lists are changeable ones -/
  loc : List (Nat × Nat)
  /-- where a name's list is read for good: nobody changes it from here on -/
  frz : List (Nat × Nat)
  /-- .. and the lists in it, too -/
  dfz : List (Nat × Nat) := []
  /-- new dicts whose keys are tuples -/
  dtp : List (Nat × Nat) := []
  /-- where a dict is read or written by a key -/
  dix : List (Nat × Nat) := []
  /-- slots whose lists nobody changes from the assignment on that stands here -/
  fzs : List ((Nat × Nat) × List Nat) := []
  /-- slots forgotten behind each turn of the loop that stands here -/
  clr : List ((Nat × Nat) × List Nat)
  /-- the built-in names that the text leaves as they are -/
  blts : List Str
  excs : List (Str × ExcR) := []
  deriving Inhabited

structure Ctx where
  nm : List Str
  sc : Scope
  /-- a comprehension's own scope, as it is written -/
  blk : Option Scope := none
  gen : Bool := false
  deriving Inhabited

def Cfg.isLoc (G : Cfg) (p : Pos) : Bool := G.loc.contains (p.line, p.col)
def Cfg.isDfz (G : Cfg) (p : Pos) : Bool := G.dfz.contains (p.line, p.col)
def Cfg.isDtp (G : Cfg) (p : Pos) : Bool := G.dtp.contains (p.line, p.col)
def Cfg.isDix (G : Cfg) (p : Pos) : Bool := G.dix.contains (p.endLine, p.endCol)
def Cfg.isFrz (G : Cfg) (p : Pos) : Bool := G.frz.contains (p.line, p.col)
def Cfg.fzsAt (G : Cfg) (p : Pos) : List Nat := (G.fzs.lookup (p.line, p.col)).getD []
def Cfg.clrAt (G : Cfg) (p : Pos) : List Nat := (G.clr.lookup (p.line, p.col)).getD []
def nameAt (nm : List Str) (x : Str) : Option Nat := match nm with
  | [] => none
  | y :: r => if x = y then some 0 else (nameAt r x).map (· + 1)
def seen (sc : Scope) (x : Str) : Bool := match sc.names.lookup x with
  | some .local => true
  | some .cell => true
  | some .free => true
  | _ => false
def isGl (sc : Scope) (x : Str) : Bool := match sc.names.lookup x with
  | some .globalImplicit => true
  | _ => false
def lk (s : Sl) (i : Nat) (h : Hs) : Res D := match s[i]? with
  | some (some d) => .ok d h
  | _ => .bad
/-- the list at a place is from now on one that nobody changes -/
def freeze (d : D) (h : Hs) : Res D := match d with
  | .loc l k => match cur h l k with
    | some xs => .ok (.lst xs) (pt h l k .dead)
    | none => .bad
  | d => .ok d h

/-- lists in lists, too -/
def frzL (f : D → Hs → Option (D × Hs)) : List D → Hs → Option (List D × Hs)
  | [], h => some ([], h)
  | x :: r, h => (f x h).bind fun p => (frzL f r p.2).map fun q => (p.1 :: q.1, q.2)
def frzD : Nat → D → Hs → Option (D × Hs)
  | 0, d, h => some (d, h)
  | n + 1, d, h => match d with
    | .loc l k => match cur h l k with
      | some xs => (frzL (frzD n) xs (pt h l k .dead)).map fun p => (.lst p.1, p.2)
      | none => none
    | .lst xs => (frzL (frzD n) xs h).map fun p => (.lst p.1, p.2)
    | .tup xs => (frzL (frzD n) xs h).map fun p => (.tup p.1, p.2)
    | d => some (d, h)
def freezeD (d : D) (h : Hs) : Res D := match frzD 3 d h with
  | some p => .ok p.1 p.2
  | none => .bad

/-- the slots' lists are frozen ahead of a statement -/
def frzS : List Nat → Sl → Hs → Option (Sl × Hs)
  | [], s, h => some (s, h)
  | i :: r, s, h => match s[i]? with
    | some (some d) => (frzD 3 d h).bind fun p => frzS r (s.set i (some p.1)) p.2
    | _ => none

/-! ### loops -/
/-- what is walked: at most so many turns; turn i: none what is not told, some none the end -/
structure Wk where
  most : Nat
  nxt : Nat → Hs → Option (Option D)
def Wk.of (xs : List D) : Wk := ⟨xs.length, fun i _ => some xs[i]?⟩
/-- the list at a place, as it stands at each turn -/
def Wk.at (n l k : Nat) (f : Nat → D → D) : Wk := ⟨n, fun i h => (cur h l k).map fun xs => xs[i]?.map (f i)⟩
def clear (s : Sl) : List Nat → Sl
  | [] => s
  | i :: r => (clear s r).set i none
/-- behind a turn's body: the next turn, or the loop's end -/
def loopO (o : Out) (cl : List Nat) (k : Sl → Hs → Out) : Out := match o with
  | .next s' h' => k (clear s' cl) h'
  | .cont s' h' => k (clear s' cl) h'
  | .brk s' h' => .next (clear s' cl) h'
  | .ret d h' => .ret d h'
  | .exc e s' h' => .exc e s' h'
  | .bad => .bad
@[simp] theorem loopO_next (s : Sl) (h : Hs) (cl : List Nat) (k : Sl → Hs → Out) : loopO (.next s h) cl k = k (clear s cl) h := id rfl
@[simp] theorem loopO_cont (s : Sl) (h : Hs) (cl : List Nat) (k : Sl → Hs → Out) : loopO (.cont s h) cl k = k (clear s cl) h := id rfl
@[simp] theorem loopO_brk (s : Sl) (h : Hs) (cl : List Nat) (k : Sl → Hs → Out) : loopO (.brk s h) cl k = .next (clear s cl) h := id rfl
@[simp] theorem loopO_ret (d : D) (h : Hs) (cl : List Nat) (k : Sl → Hs → Out) : loopO (.ret d h) cl k = .ret d h := id rfl
@[simp] theorem loopO_exc (e : Exn) (s : Sl) (h : Hs) (cl : List Nat) (k : Sl → Hs → Out) : loopO (.exc e s h) cl k = .exc e s h := id rfl
@[simp] theorem loopO_bad (cl : List Nat) (k : Sl → Hs → Out) : loopO .bad cl k = .bad := id rfl
def forL (w : Wk) (body : D → Sl → Hs → Out) (cl : List Nat) : Nat → Nat → Sl → Hs → Out
  | m, i, s, h => match w.nxt i h with
    | none => .bad
    | some none => .next s h
    | some (some d) => match m with
      | 0 => .bad
      | m + 1 => loopO (body d s h) cl fun s' h' => forL w body cl m (i + 1) s' h'
def whileL (test : Sl → Hs → Res Bool) (body : Sl → Hs → Out) (cl : List Nat) : Nat → Sl → Hs → Out
  | 0, _, _ => .bad
  | m + 1, s, h => (test s h).out s fun b h1 => if b then loopO (body s h1) cl fun s' h' => whileL test body cl m s' h' else .next s h1
/-- a comprehension's turns: what is made so far -/
def compL (w : Wk) (turn : D → Hs → Res (Option D)) : Nat → Nat → List D → Hs → Res (List D)
  | m, i, acc, h => match w.nxt i h with
    | none => .bad
    | some none => .ok acc h
    | some (some d) => match m with
      | 0 => .bad
      | m + 1 => (turn d h).bind fun r h' => match r with
        | some y => if acc.length < sizeLine then compL w turn m (i + 1) (acc ++ [y]) h' else .bad
        | none => compL w turn m (i + 1) acc h'

/-! ### the evaluator, by its depth -/
structure Sm where
  e : Ctx → Expr → Sl → Hs → Res D
  t : Ctx → Expr → Sl → Hs → Res Bool
  b : Ctx → List Stmt → Sl → Hs → Out

def Sm.nil : Sm := ⟨fun _ _ _ _ => .bad, fun _ _ _ _ => .bad, fun _ _ _ _ => .bad⟩

def argsE (ev : Expr → Sl → Hs → Res D) : List Expr → Sl → Hs → Res (List D)
  | [], _, h => .ok [] h
  | .Starred _ _ :: _, _, _ => .bad
  | e :: r, s, h => (ev e s h).bind fun x h1 => (argsE ev r s h1).bind fun xs h2 => .ok (x :: xs) h2
def partE (ev : Expr → Sl → Hs → Res D) : Option Expr → Sl → Hs → Res (Option Int)
  | none, _, h => .ok none h
  | some e, s, h => (ev e s h).bind fun x h1 => match x with
    | .int i => .ok (some i) h1
    | _ => .bad
def boolE (ev : Expr → Sl → Hs → Res D) (op : BoolOp) : List Expr → Sl → Hs → Res D
  | [], _, _ => .bad
  | [e], s, h => ev e s h
  | e :: r, s, h => (ev e s h).bind fun x h1 => (truthR x h1).bind fun b h2 => match op with
    | .And => if b then boolE ev op r s h2 else .ok x h2
    | .Or => if b then .ok x h2 else boolE ev op r s h2
def boolT (tv : Expr → Sl → Hs → Res Bool) (op : BoolOp) : List Expr → Sl → Hs → Res Bool
  | [], _, _ => .bad
  | [e], s, h => tv e s h
  | e :: r, s, h => (tv e s h).bind fun b h1 => match op with
    | .And => if b then boolT tv op r s h1 else .ok false h1
    | .Or => if b then .ok true h1 else boolT tv op r s h1

/-- a op1 b op2 c ..: x the left value -/
def chainK (last : Bool) (z : D) (h : Hs) (nx : Hs → Res D) : Res D := if last then .ok z h else match z with
  | .bl true => nx h
  | _ => .ok (.bl false) h
def chainE (ev : Expr → Sl → Hs → Res D) : D → List CmpOp → List Expr → Sl → Hs → Res D
  | x, op :: ops, e :: es, s, h => (ev e s h).bind fun y h1 => (cmpR op x y h1).bind fun z h2 => chainK ops.isEmpty z h2 fun h3 => chainE ev y ops es s h3
  | _, _, _, _, _ => .bad

def bltTab : List (Str × Blt) := [("len", .len), ("abs", .abs), ("max", .max), ("min", .min), ("int", .int), ("bool", .bool), ("str", .str), ("sum", .sum), ("all", .all), ("any", .any),
  ("sorted", .sorted), ("list", .list), ("tuple", .tuple), ("isinstance", .isinstance), ("repr", .repr)]
def bltOf (x : Str) : Option Blt := bltTab.lookup x
def mthOf (x : Str) : Option Mth :=
  if x = "append" then some .append else if x = "pop" then some .pop else if x = "index" then some .index else if x = "reverse" then some .reverse else if x = "insert" then some .insert else none
def dmOf (x : Str) : Option Dm := if x = "get" then some .get else if x = "setdefault" then some .setdefault else none
def tyOf (x : Str) : Option String :=
  if x = "int" then some "int" else if x = "bool" then some "bool" else if x = "str" then some "str" else if x = "list" then some "list" else if x = "tuple" then some "tuple" else none

def rdName (G : Cfg) (c : Ctx) (x : Str) (pos : Pos) (s : Sl) (h : Hs) : Res D :=
  if seen c.sc x then match nameAt c.nm x with
    | some i => (lk s i h).bind fun d h => if G.isDfz pos then freezeD d h else if G.isFrz pos then freeze d h else .ok d h
    | none => .bad
  else if isGl c.sc x then match G.globs.lookup x with
    | some d => .ok d h
    | none => if G.blts.contains x then match tyOf x with
        | some t => .ok (.ty t) h
        | none => .bad
      else .bad
  else .bad

/-- a built-in function's name stands for it -/
def isBlt (G : Cfg) (c : Ctx) (x : Str) : Bool := isGl c.sc x && G.blts.contains x

/-- the names of a comprehension's own -/
def ownOf (scope : Scope) : List Str := (scope.names.filter fun y => match y.2 with | .local => y.1 != (".0" : Str) | .cell => y.1 != (".0" : Str) | _ => false).map (·.1)
def ownIx (nm : List Str) (scope : Scope) : Option (List (Str × Nat)) := (ownOf scope).foldr (fun x r => match r, nameAt nm x with
  | some l, some i => some ((x, i) :: l)
  | _, _ => none) (some [])
def relSc (scope sc : Scope) : Scope :=
  { scope with names := scope.names.map fun (n, k) => if (k == .free && sc.kind == .function && sc.names.lookup n == some .cell) then (n, .cell) else (n, k) }

def isStar : Expr → Bool
  | .Starred .. => true
  | _ => false
inductive WkK where
  | seq | rng1 (a : Expr) | rng2 (a b : Expr) | rng3 (a b c : Expr) | enm (a : Expr) | zip (a b : Expr) | no
def walkK (G : Cfg) (c : Ctx) (tg it : Expr) : WkK := match it with
  | .Call (.Name x _) es [] _ =>
    if isBlt G c x then
      if x = "range" then match es with
        | [a] => if isStar a then .no else .rng1 a
        | [a, b] => if isStar a || isStar b then .no else .rng2 a b
        | [a, b, c] => if isStar a || isStar b || isStar c then .no else .rng3 a b c
        | _ => .no
      else if x = "enumerate" then match tg, es with
        | .Tuple _ _ _, [a] => if isStar a then .no else .enm a
        | _, _ => .no
      else if x = "zip" then match tg, es with
        | .Tuple _ _ _, [a, b] => if isStar a || isStar b then .no else .zip a b
        | _, _ => .no
      else .seq
    else .seq
  | _ => .seq
def walkSeq (v : D) (h1 : Hs) : Res Wk := match v with
  | .loc l k => match cur h1 l k with
    | some xs => .ok (Wk.at xs.length l k fun _ d => d) h1
    | none => .bad
  | .tup xs => .ok (Wk.of xs) h1
  | v => match v.items h1 with
    | some xs => .ok (Wk.of xs) h1
    | none => .bad
def walkEnm (v : D) (h1 : Hs) : Res Wk := match v with
  | .loc l k => match cur h1 l k with
    | some xs => .ok (Wk.at xs.length l k fun i d => .tup [.int (i : Nat), d]) h1
    | none => .bad
  | v => match v.seq h1 with
    | some xs => .ok (Wk.of (xs.zipIdx.map fun p => .tup [.int (p.2 : Nat), p.1])) h1
    | none => .bad
def walkRng (v w : D) (h1 : Hs) : Res Wk := match v, w with
  | .int m, .int n => if -(2 ^ 62) ≤ m ∧ m < 2 ^ 62 ∧ -(2 ^ 62) ≤ n ∧ n < 2 ^ 62 then .ok (Wk.of ((List.range (n - m).toNat).map fun i => .int (m + (i : Nat)))) h1 else .bad
  | _, _ => .bad
/-- downwards -/
def walkRng3 (v w u : D) (h1 : Hs) : Res Wk := match v, w, u with
  | .int m, .int n, .int c => if c = -1 ∧ -(2 ^ 62) ≤ m ∧ m < 2 ^ 62 ∧ -(2 ^ 62) ≤ n ∧ n < 2 ^ 62 then .ok (Wk.of ((List.range (m - n).toNat).map fun i => .int (m + (i : Nat) * -1))) h1 else .bad
  | _, _, _ => .bad
/-- pairs of the items of two tuples, or of two lists as they stand -/
def zipL (xs ys : List D) : List D := (xs.zip ys).map fun p => .tup [p.1, p.2]
def walkZip (v w : D) (h1 : Hs) : Res Wk := match v, w with
  | .tup xs, .tup ys => .ok (Wk.of (zipL xs ys)) h1
  | .lst xs, .lst ys => .ok (Wk.of (zipL xs ys)) h1
  | v, w => match v.items h1, w.items h1 with
    | some xs, some ys => .ok ⟨min xs.length ys.length, fun i h => match v.items h, w.items h with
      | some xs, some ys => some (zipL xs ys)[i]?
      | _, _ => none⟩ h1
    | _, _ => .bad
def walkE (G : Cfg) (S : Sm) (c : Ctx) (tg it : Expr) (s : Sl) (h : Hs) : Res Wk :=
  match walkK G c tg it with
  | .seq => (S.e c it s h).bind walkSeq
  | .rng1 a => (S.e c a s h).bind (walkRng (.int 0))
  | .rng2 a b => (S.e c a s h).bind fun v h1 => (S.e c b s h1).bind (walkRng v)
  | .rng3 a b d => (S.e c a s h).bind fun v h1 => (S.e c b s h1).bind fun w h2 => (S.e c d s h2).bind (walkRng3 v w)
  | .enm a => (S.e c a s h).bind walkEnm
  | .zip a b => (S.e c a s h).bind fun v h1 => (S.e c b s h1).bind (walkZip v)
  | .no => .bad

def isSlice : Expr → Bool
  | .Slice .. => true
  | _ => false
def isSet : Expr → Bool
  | .Set .. => true
  | _ => false
def isComp : Expr → Bool
  | .ListComp .. => true
  | .SetComp .. => true
  | .DictComp .. => true
  | _ => false
def isCall0 : Expr → Bool
  | .Call (.Name _ _) [] [] _ => true
  | _ => false

/-- a name that may be stored here -/
def stoN (c : Ctx) (x : Str) : Bool := match c.sc.names.lookup x with
  | some .local => true
  | some .cell => match c.blk with
    | none => true
    | some sc => match sc.names.lookup x with
      | some .cell => true
      | _ => false
  | _ => false

def setN (c : Ctx) (s : Sl) (x : Str) (d : D) : Option Sl := if stoN c x then (nameAt c.nm x).map fun i => s.set i (some d) else none
def setNs (c : Ctx) (s : Sl) : List Str → List D → Option Sl
  | [], [] => some s
  | x :: xs, d :: ds => (setN c s x d).bind fun s' => setNs c s' xs ds
  | _, _ => none
def setEach (f : Expr → D → Sl → Option Sl) : List Expr → List D → Sl → Option Sl
  | [], [], s => some s
  | e :: r, d :: ds, s => (f e d s).bind fun s1 => setEach f r ds s1
  | _, _, _ => none
/-- names, and tuples of names, are stored -/
def setT (c : Ctx) (ok : Str → Bool) (h : Hs) : Nat → Expr → D → Sl → Option Sl
  | 0, _, _, _ => none
  | n + 1, e, d, s => match e with
    | .Name x _ => if ok x then setN c s x d else none
    | .Tuple es _ _ => (d.seq h).bind fun ds => setEach (setT c ok h n) es ds s
    | _ => none
/-- no exception is let out -/
def noX {α : Type} : Res α → Res α
  | .ok a h => .ok a h
  | _ => .bad
def compTurn (S : Sm) (c : Ctx) (elt tg : Expr) (ifs : List Expr) (own : List (Str × Nat)) (s0 : Sl) (d : D) (h2 : Hs) : Res (Option D) :=
  match setT c (fun x => own.any fun p => p.1 == x) h2 4 tg d s0 with
  | none => .bad
  | some s2 =>
    (match ifs with
      | [] => Res.ok true h2
      | [t] => noX (S.t c t s2 h2)
      | _ => .bad).bind fun b h4 => if b then (noX (S.e c elt s2 h4)).bind fun y h5 => .ok (some y) h5 else .ok none h4
def compE (G : Cfg) (S : Sm) (c : Ctx) (elt tg it : Expr) (ifs : List Expr) (scope : Scope) (pos : Pos) (s : Sl) (h : Hs) : Res D :=
  if isSet it then .bad else match ownIx c.nm scope with
    | none => .bad
    | some own =>
      if blkC c.nm c.sc scope own then
        (walkE G S c tg it s h).bind fun w h1 =>
          (compL w (compTurn S ⟨c.nm, relSc scope c.sc, some scope, c.gen⟩ elt tg ifs own (clear s (own.map (·.2)))) w.most 0 [] h1).bind fun ys h6 => mkL (G.isLoc pos) ys h6
      else .bad

/-! generator expressions that any, all, sum consume -/
structure GenX where
  elt : Expr
  tg : Expr
  it : Expr
  ifs : List Expr
  scope : Scope
def genOf : List Expr → Option GenX
  | [.GeneratorExp elt [⟨tg, it, ifs, 0⟩] scope _] => some ⟨elt, tg, it, ifs, scope⟩
  | _ => none
/-- the target's names: one, or two in a tuple -/
def nmsOf : List Expr → Option (List Str)
  | [] => some []
  | .Name x _ :: r => (nmsOf r).map fun xs => x :: xs
  | _ => none
def gOwn : Expr → Option (List Str)
  | .Name x _ => some [x]
  | .Tuple [.Name x _, .Name y _] _ _ => some [x, y]
  | .Tuple [.Name x _, .Tuple es _ _] _ _ => match nmsOf es with
    | some ns => if 2 ≤ ns.length then some (ns.reverse ++ [x]) else none
    | none => none
  | _ => none
/-- the names whose scope is looked at -/
def gUq (own : List Str) : List Str := match own with
  | [x] => [x]
  | [x, y] => [x, y]
  | own => own.eraseDups
/-- what a name of the generator's scope stands for that is not the target's -/
def gCap (G : Cfg) (c : Ctx) (scope : Scope) (s : Sl) (h : Hs) (y : Str) : Option PyData := match scope.names.lookup y with
  | some .free => (nameAt c.nm y).bind fun i => match s[i]? with
    | some (some d) => (d.now h).py
    | _ => none
  | some .globalImplicit => (G.globs.lookup y).bind D.py
  | _ => none
def gEnv (cap : Str → Option PyData) (own : List Str) (ps : List PyData) (y : Str) : Option PyData := match nameAt own y with
  | some k => ps[k]?
  | none => cap y
/-- an item, as the target's names take it -/
def gPre : List Str → D → Option (List PyData)
  | [_], d => d.py.map fun p => [p]
  | [_, _], .tup [a, b] => D.pys [a, b]
  | x :: y :: z :: r, .tup [a, .tup bs] => if (x :: y :: z :: r).length = bs.length + 1 then a.py.bind fun p => (D.pys bs).map fun qs => qs.reverse ++ [p] else none
  | _, _ => none
def isRes : PyData → Bool
  | .bool _ => true
  | .int _ => true
  | _ => false
def gTurn (ln : Bool) (env : Str → Option PyData) (ifs : List Expr) (elt : Expr) : Option (Option PyData) :=
  (gTest ln env 12 ifs).bind fun b => if b then (gD ln env 12 elt).bind fun q => if isRes q then some (some q) else none else some none
def gAll (f : List PyData → Option (Option PyData)) : List (List PyData) → Option (List PyData)
  | [] => some []
  | ps :: r => (f ps).bind fun o => (gAll f r).map fun qs => match o with
    | some q => q :: qs
    | none => qs
def gPres (own : List Str) : List D → Option (List (List PyData))
  | [] => some []
  | d :: r => (gPre own d).bind fun p => (gPres own r).map fun ps => p :: ps
def isLstX : Expr → Bool
  | .List .. => true
  | _ => false
def isFree (scope : Scope) (x : Str) : Bool := scope.names.lookup x == some .free
def gScope (c : Ctx) (scope : Scope) (own : List Str) : Bool := scope.kind == .function && !scope.isCoroutine && scope.names.all (fun p => p.2 != .cell && (p.2 != .free || (isFree scope p.1 && (nameAt c.nm p.1).isSome && (c.sc.names.lookup p.1 == some .cell || c.sc.names.lookup p.1 == some .free)))) &&
  scope.names.lookup (".0" : Str) == some .local && own.all (fun x => scope.names.lookup x == some .local && x != ("__debug__" : Str)) && decide own.Nodup
def bound (s : Sl) (i : Nat) : Bool := match s[i]? with
  | some (some _) => true
  | _ => false
/-- the places of the captured names -/
def gFree (scope : Scope) : List Str → Nat → List Nat
  | [], _ => []
  | x :: r, i => if isFree scope x then i :: gFree scope r (i + 1) else gFree scope r (i + 1)
def rngL (v w : D) (h1 : Hs) : Res (List D) := match v, w with
  | .int m, .int n => if -(2 ^ 61) ≤ m ∧ m < 2 ^ 61 ∧ -(2 ^ 61) ≤ n ∧ n < 2 ^ 61 then .ok ((List.range (n - m).toNat).map fun i => .int (m + (i : Nat))) h1 else .bad
  | _, _ => .bad
def seqL (v : D) (h1 : Hs) : Res (List D) := match v.seq h1 with
  | some xs => .ok xs h1
  | none => .bad
def zipD (v w : D) (h1 : Hs) : Res (List D) := match v, w with
  | .tup xs, .tup ys => .ok (zipL xs ys) h1
  | v, w => match v.items h1, w.items h1 with
    | some xs, some ys => .ok (zipL xs ys) h1
    | _, _ => .bad
def isTupX : Expr → Bool
  | .Tuple .. => true
  | _ => false
def gWalk (G : Cfg) (S : Sm) (c : Ctx) (tg it : Expr) (s : Sl) (h : Hs) : Res (List D) :=
  match walkK G c tg it with
  | .seq => (S.e c it s h).bind seqL
  | .rng1 a => if isTupX tg then .bad else (S.e c a s h).bind (rngL (.int 0))
  | .rng2 a b => if isTupX tg then .bad else (S.e c a s h).bind fun v h1 => (S.e c b s h1).bind (rngL v)
  | .rng3 _ _ _ => .bad
  | .enm a => (S.e c a s h).bind fun v h1 => (seqL v h1).bind fun xs h2 => .ok (xs.zipIdx.map fun p => .tup [.int (p.2 : Nat), p.1]) h2
  | .zip a b => (S.e c a s h).bind fun v h1 => (S.e c b s h1).bind (zipD v)
  | .no => .bad
def genE (G : Cfg) (S : Sm) (c : Ctx) (g : GenX) (s : Sl) (h : Hs) : Res (List PyData) := match gOwn g.tg with
  | none => .bad
  | some own => if c.gen && gScope c g.scope (gUq own) && !isLstX g.it && !isSet g.it then
      if (gFree g.scope c.nm 0).all (bound s) then
        (gWalk G S c g.tg g.it s h).bind fun xs h1 => match (gPres own xs).bind (gAll fun ps => gTurn (isGl g.scope "len" && G.blts.contains "len") (gEnv (gCap G c g.scope s h1) own ps) g.ifs g.elt) with
          | some qs => .ok qs h1
          | none => .bad
      else .bad
    else .bad
def pyBools : List PyData → Option (List Bool)
  | [] => some []
  | .bool b :: r => (pyBools r).map fun bs => b :: bs
  | _ => none
def pyInts : List PyData → Option (List Int)
  | [] => some []
  | .int i :: r => (pyInts r).map fun is => i :: is
  | _ => none
inductive Con where
  | any | all | sum
  deriving DecidableEq, Inhabited
def conD (k : Con) (qs : List PyData) (h : Hs) : Res D := match k with
  | .any => match pyBools qs with
    | some bs => .ok (.bl (bs.any id)) h
    | none => .bad
  | .all => match pyBools qs with
    | some bs => .ok (.bl (bs.all id)) h
    | none => .bad
  | .sum => match pyInts qs with
    | some is => .ok (.int is.sum) h
    | none => .bad
def conOf (x : Str) : Option Con := if x = "any" then some .any else if x = "all" then some .all else if x = "sum" then some .sum else none
def genC (G : Cfg) (S : Sm) (c : Ctx) (x : Str) (g : GenX) (s : Sl) (h : Hs) : Res D :=
  if isBlt G c x && !(G.defs.lookup x).isSome then match conOf x with
    | some k => (genE G S c g s h).bind (conD k)
    | none => .bad
  else .bad

def callE0 (G : Cfg) (call : Str → List D → Hs → Res D) (S : Sm) (c : Ctx) (x : Str) (es : List Expr) (pos : Pos) (s : Sl) (h : Hs) : Res D :=
  if es.isEmpty || es.any isStar then .bad
  else if isGl c.sc x then
    if (G.defs.lookup x).isSome then (argsE (S.e c) es s h).bind (call x)
    else if G.blts.contains x then
      if x = "isinstance" then match es with
        | [a, .Tuple ts _ _] => (S.e c a s h).bind fun v h1 => (argsE (S.e c) ts s h1).bind fun us h2 => match (tyD v h2).bind fun t => isTys t us with
          | some b => if us.length ≤ sizeLine then .ok (.bl b) h2 else .bad
          | none => .bad
        | _ => (argsE (S.e c) es s h).bind (bltD (G.isLoc pos) .isinstance)
      else match bltOf x with
        | some k => (argsE (S.e c) es s h).bind (bltD (G.isLoc pos) k)
        | none => .bad
    else .bad
  else .bad

/-! sets that are counted or sorted at once -/
def setOf : List Expr → Option Expr
  | [.Call (.Name y _) [a] [] _] => if y = "set" then some a else none
  | _ => none
def dedupI : List Int → List Int
  | [] => []
  | x :: r => if r.contains x then dedupI r else x :: dedupI r
def lenSet (v : D) (h : Hs) : Res D := match (v.seq h).bind D.ints with
  | some is => if is.length ≤ 4000 then .ok (.int (dedupI is).length) h else .bad
  | none => .bad
def encI (g : List Int) : D := .tup (g.map .int)
def pyI (g : List Int) : PyData := .tuple (g.map .int)
def srtI (L : List (List Int)) : List (List Int) := L.mergeSort (fun p q => decide (p ≤ q))
def dedupT : List (List Int) → List (List Int)
  | [] => []
  | x :: r => if x ∈ r then dedupT r else x :: dedupT r
def D.tupsT : List D → Option (List (List Int))
  | [] => some []
  | d :: r => (keyT d).bind fun k => (D.tupsT r).map fun ks => k :: ks
/-- sorted(set(..)) of a list of tuples of ints -/
def sortSetT (b : Bool) (v : D) (h : Hs) : Res D := match (v.items h).bind D.tupsT with
  | some ks => if ks.length < 64 ∧ srtOk ((dedupT ks).map pyI) = true then mkL b ((srtI (dedupT ks)).map encI) h else .bad
  | none => .bad
def sortSet (b : Bool) (v : D) (h : Hs) : Res D := match (v.seq h).bind D.ints with
  | some is => if is.length ≤ 4000 ∧ (dedupI is).length < 64 then mkL b ((sortI (dedupI is)).map .int) h else .bad
  | none => sortSetT b v h
def setC (G : Cfg) (S : Sm) (c : Ctx) (x : Str) (a : Expr) (pos : Pos) (s : Sl) (h : Hs) : Res D :=
  if isBlt G c x && isBlt G c "set" && !isStar a then
    if x = "len" then (S.e c a s h).bind lenSet
    else if x = "sorted" then (S.e c a s h).bind (sortSet (G.isLoc pos))
    else .bad
  else .bad
/-- list(range(n)) -/
def rngOf : List Expr → Option Expr
  | [.Call (.Name y _) [a] [] _] => if y = "range" then some a else none
  | _ => none
def rngD (b : Bool) (v : D) (h : Hs) : Res D := match v with
  | .int n => if -(2 ^ 61) ≤ n ∧ n ≤ 1000000 then mkL b ((List.range n.toNat).map fun i => .int (i : Nat)) h else .bad
  | _ => .bad
def rngC (G : Cfg) (S : Sm) (c : Ctx) (x : Str) (a : Expr) (pos : Pos) (s : Sl) (h : Hs) : Res D :=
  if isBlt G c x && isBlt G c "range" && !isStar a then
    if x = "list" then (S.e c a s h).bind (rngD (G.isLoc pos)) else .bad
  else .bad
def callE (G : Cfg) (call : Str → List D → Hs → Res D) (S : Sm) (c : Ctx) (x : Str) (es : List Expr) (pos : Pos) (s : Sl) (h : Hs) : Res D := match genOf es with
  | some g => genC G S c x g s h
  | none => match setOf es with
    | some a => setC G S c x a pos s h
    | none => match rngOf es with
      | some a => rngC G S c x a pos s h
      | none => callE0 G call S c x es pos s h

/-- sorted(.., reverse=True) of a list of pairs of ints -/
def D.prs : List D → Option (List (Int × Int))
  | [] => some []
  | .tup [.int a, .int b] :: r => (D.prs r).map fun ks => (a, b) :: ks
  | _ => none
def lexP (p q : Int × Int) : Bool := decide (p.1 < q.1 ∨ p.1 = q.1 ∧ p.2 ≤ q.2)
def srtP (L : List (Int × Int)) : List (Int × Int) := L.mergeSort lexP
def encP (p : Int × Int) : D := .tup [.int p.1, .int p.2]
def sortRev (b : Bool) (v : D) (h : Hs) : Res D := match (v.items h).bind D.prs with
  | some ks => mkL b ((srtP ks).reverse.map encP) h
  | none => .bad
def isTru : Expr → Bool
  | .Constant (.bool true) _ _ => true
  | _ => false
def revC (G : Cfg) (S : Sm) (c : Ctx) (x : Str) (es : List Expr) (kw : Keyword) (pos : Pos) (s : Sl) (h : Hs) : Res D := match es with
  | [a] => if isBlt G c x && decide (x = "sorted") && decide (kw.arg = some ("reverse" : Str)) && isTru kw.value && !isStar a then (S.e c a s h).bind (sortRev (G.isLoc pos)) else .bad
  | _ => .bad
def stepE (G : Cfg) (call : Str → List D → Hs → Res D) (S : Sm) (c : Ctx) (e : Expr) (s : Sl) (h : Hs) : Res D :=
  match e with
  | .Constant (.int i) _ _ => .ok (.int i) h
  | .Constant .none _ _ => .ok .non h
  | .Constant (.bool b) _ _ => .ok (.bl b) h
  | .Constant (.str x) _ _ => .ok (.str x) h
  | .Name x pos => rdName G c x pos s h
  | .BinOp a op b pos => (S.e c a s h).bind fun x h1 => (S.e c b s h1).bind fun y h2 => binD (G.isLoc pos) op x y h2
  | .UnaryOp .USub a _ => (S.e c a s h).bind negD
  | .UnaryOp .Not a _ => (S.e c a s h).bind fun x h1 => (truthR x h1).bind fun b h2 => .ok (.bl (!b)) h2
  | .BoolOp op es _ => boolE (S.e c) op es s h
  | .Compare a ops es _ => if ops.isEmpty || es.any isSet || ops.length != es.length then .bad else (S.e c a s h).bind fun x h1 => chainE (S.e c) x ops es s h1
  | .IfExp t a b _ => (S.t c t s h).bind fun k h1 => if k then S.e c a s h1 else S.e c b s h1
  | .Tuple es _ _ => (argsE (S.e c) es s h).bind mkT
  | .List es pos => (argsE (S.e c) es s h).bind (mkL (G.isLoc pos))
  | .Subscript a (.Slice lo hi none _) pos => (S.e c a s h).bind fun x h1 => (partE (S.e c) lo s h1).bind fun l h2 => (partE (S.e c) hi s h2).bind fun u h3 => slD (G.isLoc pos) x l u h3
  | .Subscript a (.Slice none none (some st) _) pos => if isM1 st then (S.e c a s h).bind (revD (G.isLoc pos)) else .bad
  | .Subscript _ (.Slice ..) _ => .bad
  | .Subscript a b pos => if G.isDix pos then (S.e c a s h).bind fun x h1 => (S.e c b s h1).bind fun y h2 => dixD x y h2 else (S.e c a s h).bind fun x h1 => (S.e c b s h1).bind fun y h2 => ixD x y h2
  | .Dict [] [] pos => match h with
    | top :: rest => .ok (.loc rest.length top.length) ((top ++ [if G.isDtp pos then .dt [] else .dk []]) :: rest)
    | [] => .bad
  | .ListComp elt [⟨tg, it, ifs, 0⟩] scope pos => compE G S c elt tg it ifs scope pos s h
  | .Call (.Name x _) es [] pos => callE G call S c x es pos s h
  | .Call (.Name x _) es [kw] pos => revC G S c x es kw pos s h
  | .Call (.Attribute o m ap) es [] pos => if isCall0 o || (ap.endLine != pos.line) || decide (es.length ≥ 29) || es.any isStar then .bad else match mthOf m with
    | some k => (S.e c o s h).bind fun x h1 => if (x.own h1).isSome then (argsE (S.e c) es s h1).bind fun ys h2 => mthD k x ys h2 else .bad
    | none => match dmOf m with
      | some k => if es.isEmpty then .bad else (S.e c o s h).bind fun x h1 => if (dcAt x h1).isSome then (argsE (S.e c) es s h1).bind fun ys h2 => dmD k x ys h2 else .bad
      | none => .bad
  | _ => .bad

def stepT (G : Cfg) (S : Sm) (c : Ctx) (e : Expr) (s : Sl) (h : Hs) : Res Bool :=
  match e with
  | .UnaryOp .Not a _ => (S.t c a s h).bind fun b h1 => .ok (!b) h1
  | .BoolOp op es _ => boolT (S.t c) op es s h
  | .IfExp .. => .bad
  | .Compare a ops es _ => if ops.isEmpty || es.any isSet || ops.length != es.length then .bad else
    (S.e c a s h).bind fun x h1 => (chainE (S.e c) x ops es s h1).bind fun z h => match z with | .bl b => .ok b h | _ => .bad
  | e => (S.e c e s h).bind truthR

def gE0 (S : Sm) (c : Ctx) (tg : Expr) (d : D) (s : Sl) (h : Hs) : Res Sl :=
  match tg with
  | .Subscript _ (.Slice ..) _ => .bad
  | .Subscript o i _ => (noX (S.e c o s h)).bind fun x h1 => (noX (S.e c i s h1)).bind fun y h2 => (setD x y d h2).bind fun _ h3 => .ok s h3
  | tg => match setT c (fun _ => true) h 4 tg d s with
    | some s' => .ok s' h
    | none => .bad
/-- two places at once -/
def gE2 (f g : D → Sl → Hs → Res Sl) (d : D) (s : Sl) (h : Hs) : Res Sl := match d with
  | .tup [a, b] => (noX (f a s h)).bind fun s1 h1 => g b s1 h1
  | _ => .bad
def gE (S : Sm) (c : Ctx) (tg : Expr) (d : D) (s : Sl) (h : Hs) : Res Sl :=
  match tg with
  | .Tuple [.Subscript o1 i1 p1, .Subscript o2 i2 p2] _ _ => gE2 (gE0 S c (.Subscript o1 i1 p1)) (gE0 S c (.Subscript o2 i2 p2)) d s h
  | tg => gE0 S c tg d s h

def blockE (ex : Stmt → Sl → Hs → Out) : List Stmt → Sl → Hs → Out
  | [], s, h => .next s h
  | st :: r, s, h => (ex st s h).seq (blockE ex r)

/-- the most turns of a while -/
def wmost : Nat := 10000000

/-- is a comprehension's list stored while its own names are still there; none: not told -/
def swapC (sc : Scope) (v tg : Expr) : Option Bool := match v with
  | .ListComp _ _ scope pos => match tg with
    | .Name t p => some (sc.names.lookup t == some .local && p.line == pos.line && !(scope.names.any fun (n, k) => n == t && (k == .local || k == .cell)))
    | _ => some false
  | .SetComp .. => none
  | .DictComp .. => none
  | _ => some false
def isLoc (sc : Scope) (x : Str) : Bool := sc.names.lookup x == some .local
/-- are the items of a tuple display stored from the right, no tuple made; none: not told -/
def swapV (vs : List Expr) : Option Bool :=
  if vs.any isStar then some false
  else if vs.all (foldedForSure 8) then some false
  else if vs.all (constantsAlone 8) then none
  else some true
def swap2 (sc : Scope) (x y : Str) (px py : Pos) (vs : List Expr) : Option Bool :=
  if isLoc sc x && (isLoc sc y && py.line == px.line) && x != y then swapV vs else some false
def swap3 (sc : Scope) (x y z : Str) (px py pz : Pos) (vs : List Expr) : Option Bool :=
  if isLoc sc x && (isLoc sc y && py.line == px.line) && (isLoc sc z && pz.line == px.line) && (x != y && x != z && y != z) then swapV vs else some false
/-- the targets are not two or three names, or as many values don't stand there -/
def noSwap (ts vs : List Expr) : Bool := !(ts.length == 2 || ts.length == 3) || vs.length != ts.length || ts.any fun | .Name .. => false | _ => true
def asgPlain (S : Sm) (c : Ctx) (tg v : Expr) (s : Sl) (h : Hs) : Out :=
  (S.e c v s h).out s fun d h1 => (gE S c tg d s h1).out s fun s2 h2 => .next s2 h2
def asgPar (S : Sm) (c : Ctx) (ns : List Str) (vs : List Expr) (s : Sl) (h : Hs) : Out :=
  (argsE (S.e c) vs s h).out s fun ds h1 => match setNs c s ns ds with
    | some s2 => .next s2 h1
    | none => .bad
inductive AsK where
  | comp (elt tg it : Expr) (ifs : List Expr) (scope : Scope) (pos : Pos) (x : Str) | par2 (x y : Str) (a b : Expr) | par3 (x y z : Str) (a b d : Expr) | plain | no
def canSto (c : Ctx) (x : Str) : Bool := stoN c x && (nameAt c.nm x).isSome
def asgK (c : Ctx) (tg v : Expr) : AsK :=
  match swapC c.sc v tg with
  | none => .no
  | some true => match v, tg with
    | .ListComp elt [⟨tg', it, ifs, 0⟩] scope pos, .Name x _ => if canSto c x then .comp elt tg' it ifs scope pos x else .no
    | _, _ => .no
  | some false => match tg, v with
    | .Tuple [.Name x px, .Name y py] _ _, .Tuple [a, b] _ _ => match swap2 c.sc x y px py [a, b] with
      | none => .no
      | some true => if canSto c x && canSto c y then .par2 x y a b else .no
      | some false => .plain
    | .Tuple [.Name x px, .Name y py, .Name z pz] _ _, .Tuple [a, b, d] _ _ => match swap3 c.sc x y z px py pz [a, b, d] with
      | none => .no
      | some true => if canSto c x && canSto c y && canSto c z then .par3 x y z a b d else .no
      | some false => .plain
    | .Tuple ts _ _, .Tuple vs _ _ => if noSwap ts vs then .plain else .no
    | .List .., _ => .no
    | .Starred .., _ => .no
    | _, _ => .plain
/-- a dict's place is stored -/
def dixT (G : Cfg) (tg : Expr) : Option (Expr × Expr) := match tg with
  | .Subscript o i p => if G.isDix p && !isSlice i then some (o, i) else none
  | _ => none
def gDc (S : Sm) (c : Ctx) (o i : Expr) (d : D) (s : Sl) (h : Hs) : Res Sl := (noX (S.e c o s h)).bind fun x h1 => (noX (S.e c i s h1)).bind fun y h2 => (dsetD x y d h2).bind fun _ h3 => .ok s h3
def asgDc (S : Sm) (c : Ctx) (o i v : Expr) (s : Sl) (h : Hs) : Out :=
  (S.e c v s h).out s fun d h1 => (gDc S c o i d s h1).out s fun s2 h2 => .next s2 h2
def asgE (G : Cfg) (S : Sm) (c : Ctx) (tg v : Expr) (s : Sl) (h : Hs) : Out :=
  match asgK c tg v with
  | .comp elt tg' it ifs scope pos x => (compE G S c elt tg' it ifs scope pos s h).out s fun d h1 => match setN c s x d with
      | some s2 => .next s2 h1
      | none => .bad
  | .par2 x y a b => asgPar S c [x, y] [a, b] s h
  | .par3 x y z a b d => asgPar S c [x, y, z] [a, b, d] s h
  | .plain => match dixT G tg with
    | some p => asgDc S c p.1 p.2 v s h
    | none => asgPlain S c tg v s h
  | .no => .bad

def augD (op : Operator) (a b : D) : Option D := match a, b with
  | .int m, .int n => match op with
    | .Add => some (.int (m + n))
    | .Sub => some (.int (m - n))
    | _ => none
  | _, _ => none
/-- a list that grows in its place -/
def extR (op : Operator) (a b : D) (h : Hs) : Res D := match op, a with
  | .Add, .loc l k => match cur h l k, b.own h with
    | some xs, some ys => if xs.length + ys.length ≤ sizeLine then wr l k (.lst (xs ++ ys)) h fun h' => .ok (.loc l k) h' else .bad
    | _, _ => .bad
  | _, _ => .bad
/-- values that need no place -/
def D.imm : D → Bool
  | .non => true
  | .bl _ => true
  | .int _ => true
  | .str _ => true
  | _ => false
def excFs (fi : List (Str × Nat)) (ds : List D) : List (Str × D) := (fi.map fun p => (p.1, (D.non :: ds).getD p.2 .non)).reverse
def raiseO (call : Str → List D → Hs → Res D) (x : Str) (n : Nat) (fi : List (Str × Nat)) (r : Res (List D)) (s : Sl) (h : Hs) : Out := match call "" [] h with
  | .bad => .bad
  | _ => r.out s fun ds h1 => if ds.all D.imm && decide (ds.length ≤ 1000) && decide (ds.length + 1 = n) then .exc ⟨x, excFs fi ds⟩ s h1 else .bad
def raiseE (G : Cfg) (call : Str → List D → Hs → Res D) (S : Sm) (c : Ctx) (x : Str) (es : List Expr) (s : Sl) (h : Hs) : Out :=
  if es.isEmpty || es.any isStar then .bad
  else if isGl c.sc x then match G.excs.lookup x with
    | some r => raiseO call x r.n r.fi (argsE (S.e c) es s h) s h
    | none => .bad
  else .bad
/-- in an except suite: the exception's fields, constants -/
def hE (fi : List (Str × Nat)) (n : Str) (fs : List (Str × D)) : Expr → Option D
  | .Attribute (.Name y _) f _ => if y = n ∧ (fi.any fun p => p.1 == f) = true then fs.lookup f else none
  | .Constant (.int i) _ _ => some (.int i)
  | .Constant (.str x) _ _ => some (.str x)
  | .Constant (.bool b) _ _ => some (.bl b)
  | .Constant .none _ _ => some .non
  | _ => none
def hEs (fi : List (Str × Nat)) (n : Str) (fs : List (Str × D)) : List Expr → Option (List D)
  | [] => some []
  | e :: r => (hE fi n fs e).bind fun d => (hEs fi n fs r).map fun ds => d :: ds
/-- tests in a row -/
def hB (op : BoolOp) (f : Expr → Option Bool) : List Expr → Option Bool
  | [] => none
  | [e] => f e
  | e :: r => (f e).bind fun b => match op with
    | .And => if b then hB op f r else some false
    | .Or => if b then some true else hB op f r
/-- isinstance, in an except suite -/
def hI (G : Cfg) (c : Ctx) (r : ExcR) (n : Str) (fs : List (Str × D)) : Expr → Option Bool
  | .Call (.Name f _) [.Name y _, .Name w _] [] _ => if f = "isinstance" ∧ isBlt G c f = true ∧ y = n ∧ isGl c.sc w = true then r.isa.lookup w else none
  | .Call (.Name f _) [.Attribute (.Name y p) g q, .Name w _] [] _ => if f = "isinstance" ∧ isBlt G c f = true ∧ isBlt G c w = true ∧ (w = "str" ∨ w = "int") then
      (hE r.fi n fs (.Attribute (.Name y p) g q)).bind fun d => (tyD d []).bind fun t => isTy t (if w = "str" then "str" else "int") else none
  | _ => none
theorem hI_none {G : Cfg} {c : Ctx} {r : ExcR} {n : Str} {fs : List (Str × D)} {e : Expr} (h1 : ¬ ∃ f pf y py w pw pos, e = .Call (.Name f pf) [.Name y py, .Name w pw] [] pos) (h2 : ¬ ∃ f pf y py gg pg w pw pos, e = .Call (.Name f pf) [.Attribute (.Name y py) gg pg, .Name w pw] [] pos) : hI G c r n fs e = none := by
  unfold hI
  split
  · exact absurd ⟨_, _, _, _, _, _, _, rfl⟩ h1
  · exact absurd ⟨_, _, _, _, _, _, _, _, _, rfl⟩ h2
  · rfl
def hT (G : Cfg) (c : Ctx) (r : ExcR) (n : Str) (fs : List (Str × D)) : Nat → Expr → Option Bool
  | 0, _ => none
  | k + 1, e => match e with
    | .UnaryOp .Not t _ => (hT G c r n fs k t).map (!·)
    | .BoolOp op es _ => hB op (hT G c r n fs k) es
    | e => hI G c r n fs e
def hR (G : Cfg) (c : Ctx) (r : ExcR) (n : Str) (fs : List (Str × D)) : Nat → Expr → Option D
  | 0, _ => none
  | k + 1, e => match e with
    | .Tuple es _ _ => if es.any isStar || decide (es.length > 1000) then none else (hEs r.fi n fs es).map .tup
    | .IfExp t a b _ => (hT G c r n fs 4 t).bind fun q => if q then hR G c r n fs k a else hR G c r n fs k b
    | e => hE r.fi n fs e
/-- the suite -/
def hS (G : Cfg) (c : Ctx) (r : ExcR) (n : Str) (fs : List (Str × D)) : List Stmt → Option D
  | [.Return (some e) _] => hR G c r n fs 4 e
  | .If t [.Return (some e) _] [] _ :: rest => (hT G c r n fs 4 t).bind fun q => if q then hR G c r n fs 4 e else hS G c r n fs rest
  | _ => none
def tryO (x : Str) (i : Nat) (hnd : List (Str × D) → Option D) (o : Out) : Out := match o with
  | .exc e s1 h1 => if e.cls = x ∧ i < s1.length then match hnd e.fs with
      | some d => .ret d h1
      | none => .bad
    else .bad
  | o => o
def tryE (G : Cfg) (S : Sm) (c : Ctx) (body : List Stmt) (x n : Str) (suite : List Stmt) (s : Sl) (h : Hs) : Out :=
  if c.blk.isNone && isGl c.sc x && decide (c.sc.names.lookup n = some .local) && !suite.isEmpty then match nameAt c.nm n, G.excs.lookup x with
    | some i, some r => tryO x i (fun fs => hS G c r n fs suite) (S.b c body s h)
    | _, _ => .bad
  else .bad
def preF (is : List Nat) (f : Sl → Hs → Out) (s : Sl) (h : Hs) : Out := match frzS is s h with
  | some p => f p.1 p.2
  | none => .bad
def stepS (G : Cfg) (call : Str → List D → Hs → Res D) (S : Sm) (c : Ctx) (st : Stmt) (s : Sl) (h : Hs) : Out :=
  match st with
  | .Pass _ => .next s h
  | .Break _ => .brk s h
  | .Continue _ => .cont s h
  | .Return none _ => .ret .non h
  | .Return (some e) _ => (S.e c e s h).out s fun d h1 => .ret d h1
  | .Expr (.Constant (.str _) _ _) _ => .next s h
  | .Expr e _ => if isComp e then .bad else (S.e c e s h).out s fun _ h1 => .next s h1
  | .Assign [tg] v pos => preF (G.fzsAt pos) (asgE G S c tg v) s h
  | .AugAssign (.Name x _) op e pos => if stoN c x then match nameAt c.nm x with
      | some i => (lk s i h).out s fun a h1 => (S.e c e s h1).out s fun b h2 => match augD op a b with
        | some d => .next (s.set i (some d)) h2
        | none => (extR op a b h2).out s fun d h3 => .next (s.set i (some d)) h3
      | none => .bad
    else .bad
  | .AugAssign (.Subscript o i _) op e _ => if isSlice i then .bad else (S.e c o s h).out s fun x h1 => (S.e c i s h1).out s fun y h2 => (ixL x y h2).out s fun a h3 => (S.e c e s h3).out s fun b h4 => match augD op a b with
      | some d => (setD x y d h4).out s fun _ h5 => .next s h5
      | none => .bad
  | .If t a b _ => (S.t c t s h).out s fun k h1 => if k then S.b c a s h1 else S.b c b s h1
  | .While t b [] pos => whileL (S.t c t) (S.b c b) (G.clrAt pos) wmost s h
  | .For tg it b [] pos => if isSet it then .bad else (walkE G S c tg it s h).out s fun w h1 =>
      forL w (fun d s h => (gE S c tg d s h).out s fun s2 h2 => S.b c b s2 h2) (G.clrAt pos) w.most 0 s h1
  | .Raise (some (.Call (.Name x _) es [] _)) none _ => raiseE G call S c x es s h
  | .Try body [.ExceptHandler (some (.Name x _)) (some n) suite _] [] [] _ => tryE G S c body x n suite s h
  | _ => .bad

def sem (G : Cfg) (call : Str → List D → Hs → Res D) : Nat → Sm
  | 0 => Sm.nil
  | n + 1 => let S := sem G call n
    ⟨stepE G call S, stepT G S, fun c => blockE (stepS G call S c)⟩

def fuel : Nat := 64
/-- a def called with values -/
def callN (G : Cfg) : Nat → Str → List D → Hs → Res D
  | 0, _, _, _ => .bad
  | n + 1, f, ds, h => match G.defs.lookup f with
    | none => if f = "" then .ok .non h else .bad
    | some r =>
      if ds.length = r.ps.length then
        let o := (sem G (callN G n) fuel).b ⟨r.nm, defScope r.st, none, r.gen⟩ (defBody r.st) (ds.map some ++ List.replicate (r.nm.length - ds.length) none) (if r.share then h else [] :: h)
        if r.share then match o with
          | .next _ h' => .ok .non h'
          | .ret d h' => .ok d h'
          | .exc e _ h' => .exc e h'
          | _ => .bad
        else match o with
          | .next _ (_ :: h') => .ok .non h'
          | .ret d (_ :: h') => if d.ok h.length then .ok d h' else .bad
          | .exc e _ (_ :: h') => if e.fs.all (fun p => p.2.ok h.length) then .exc e h' else .bad
          | _ => .bad
      else .bad
end Bk

/-! BkDct: dicts whose keys are tuples of ints, by their one object; what is done with them. -/
namespace Bk
open PySem PySem.Spec PyProof.Rows L2
abbrev EI := List Int × Addr × Value
def hTupI (ks : List Int) : Int := reduceHash (Builtin.Tuple.tupleHashOf (ks.map hashInt))
def entI (x : EI) : DictEntry := ⟨hTupI x.1, .ref x.2.1, x.2.2⟩
theorem entI_eq (P : Program) (w : World) (xs : List EI) : xs.map (entryOfKey (tupleKind (PySem.intKind P w))) = xs.map entI := rfl
def DtRaw (a : Addr) (xs : List EI) (h : Heap) : Prop := xs.length ≤ sizeLine ∧ (a == sysModules) = false ∧ ∃ o es ep, h.get? a = some o ∧ o.ExactDict ∧ o.data = .dict es ep ∧ es.toList = xs.map entI ∧ (xs.map (·.1)).Nodup
/-- the dict at a -/
def DtO (a : Addr) (xs : List EI) : HO := .ext (DtRaw a xs)
section
variable {X : Cx} {pins : List (Addr × Obj)} {σ : L2.St} {H : Hp} {s : Shared} {a b : Addr} {A : Around} {E : Value → Shared → Prop} {xs : List EI} {k : List Int} {u r : Value}
theorem dtO_ok {P : Program} {w : World} {h : Heap} (q : DtRaw a xs h) : ObjOk P w H h a (DtO a xs) := by
  refine ⟨q, ?_, fun h1 h2 q1 kp => ?_⟩
  · obtain ⟨_, _, o, _, _, e, _⟩ := q
    exact ⟨o, e⟩
  · obtain ⟨z1, z2, o, es, ep, e, c⟩ := q1
    exact ⟨z1, z2, o, es, ep, kp o e, c⟩
theorem dtO_raw (I : Inv X pins σ H s) (e : H a = some (DtO a xs)) : DtRaw a xs s.heap := (show ObjOk X.prog X.w H s.heap a (DtO a xs) from I.hok a _ e).1
theorem int_items {P : Program} {w : World} : ∀ {ks : List Int} {us : List Value}, Vals (ks.map V.int) us → ItemsAre (PySem.intKind P w) ks us
  | [], _, q => by rw [List.map_nil] at q; cases q; exact .nil
  | k :: ks, _, q => by
    rw [List.map_cons] at q
    cases q with
    | cons h t =>
      refine .cons ?_ (int_items t)
      obtain ⟨t', rfl⟩ := h
      show Value.isInt k (.int k t') = true
      unfold Value.isInt
      simp
theorem key_int (I : Inv X pins σ H s) (hb : SqT X.K H b (k.map V.int)) : (tupleKind (PySem.intKind X.prog X.w)).is s.heap k b := by
  obtain ⟨its, q, ⟨o, ho, hc, n, hd⟩, _⟩ := I.tuple hb
  exact ⟨o, its.toArray, n, ho, hc, hd, by simpa using int_items q⟩
def KeysI (K : PySem.W.Frag) (H : Hp) (xs : List EI) : Prop := ∀ x ∈ xs, SqT K H x.2.1 (x.1.map V.int)
theorem dtO_of (I : Inv X pins σ H s) (e : H a = some (DtO a xs)) (hk : KeysI X.K H xs) : xs.length ≤ sizeLine ∧ (a == sysModules) = false ∧ s.heap.DictOfH (tupleKind (PySem.intKind X.prog X.w)) a xs := by
  obtain ⟨z1, z2, o, es, ep, e1, e2, e3, e4, e5⟩ := dtO_raw I e
  exact ⟨z1, z2, o, es, ep, e1, e2, e3, e4, fun x hx => key_int I (hk x hx), e5⟩
theorem dt_getItem {p : Addr × Value} {Q : Value → Shared → Prop} (hu : A.units + 1 < cLine) (I : Inv X pins σ H s) (e : H a = some (DtO a xs)) (hk : KeysI X.K H xs) (hb : SqT X.K H b (k.map V.int)) (hp : atKey xs k = some p)
    (h : ∀ s', Inv X pins σ H s' → Q p.2 s') : wpAny (model X.prog X.w) A (getItem (.ref a) (.ref b)) Q E s := by
  obtain ⟨_, _, dd⟩ := dtO_of I e hk
  exact wpAny_getItem_heap (tupleKind_room_in1 hu) (key_int I hb) dd hp (h _ (I.tok _))
theorem dt_in {Q : Value → Shared → Prop} (hu : A.units + 1 < cLine) (I : Inv X pins σ H s) (e : H a = some (DtO a xs)) (hk : KeysI X.K H xs) (hb : SqT X.K H b (k.map V.int))
    (h : ∀ s', Inv X pins σ H s' → Q (.bool (atKey xs k).isSome) s') : wpAny (model X.prog X.w) A (compareOp .In (.ref b) (.ref a)) Q E s := by
  obtain ⟨_, z, dd⟩ := dtO_of I e hk
  exact wpAny_in_heap (tupleKind_room_in1 hu) (key_int I hb) z dd (h _ (I.tok _))
theorem dt_notIn {Q : Value → Shared → Prop} (hu : A.units + 1 < cLine) (I : Inv X pins σ H s) (e : H a = some (DtO a xs)) (hk : KeysI X.K H xs) (hb : SqT X.K H b (k.map V.int))
    (h : ∀ s', Inv X pins σ H s' → Q (.bool (!(atKey xs k).isSome)) s') : wpAny (model X.prog X.w) A (compareOp .NotIn (.ref b) (.ref a)) Q E s := by
  obtain ⟨_, z, dd⟩ := dtO_of I e hk
  exact wpAny_notIn_heap (tupleKind_room_in1 hu) (key_int I hb) z dd (h _ (I.tok _))
theorem dt_written {h' : Heap} {t' : Nat} (I : Inv X pins σ H s) (e : H a = some (DtO a xs)) (hl : xs.length < sizeLine) (hs : Heap.SameBut a s.heap h') (dd : h'.DictOfH (tupleKind (PySem.intKind X.prog X.w)) a (storedH xs k b r)) :
    Inv X pins σ (upd H a (DtO a (storedH xs k b r))) { s with heap := h', toks := t' } := by
  obtain ⟨_, z2, _⟩ := dtO_raw I e
  obtain ⟨q, es, ep, hq, h2, h3, h4, _, h5⟩ := dd
  have hl2 : (storedH xs k b r).length ≤ sizeLine := by
    unfold storedH
    split
    · rw [List.length_map]; omega
    · simp; omega
  exact d_write I (by rw [e]; exact True.intro) hs ⟨q, hq⟩ (dtO_ok ⟨hl2, z2, q, es, ep, hq, h2, h3, h4, h5⟩)
theorem dt_setItem {Q : Unit → Shared → Prop} (hu : A.units + 1 < cLine) (I : Inv X pins σ H s) (e : H a = some (DtO a xs)) (hk : KeysI X.K H xs) (hb : SqT X.K H b (k.map V.int)) (hl : xs.length < sizeLine)
    (h : ∀ s', Inv X pins σ (upd H a (DtO a (storedH xs k b r))) s' → Q () s') : wpAny (model X.prog X.w) A (setItem (.ref a) (.ref b) r) Q E s := by
  obtain ⟨z, _, dd⟩ := dtO_of I e hk
  exact wpAny_setItem_heap (hsz := z) (tupleKind_room_in1 hu) (key_int I hb) dd fun h' dd' hs => h _ (dt_written I e hl hs dd')
theorem dt_setdefault {Q : Value → Shared → Prop} (hu : A.units + 1 < cLine) (I : Inv X pins σ H s) (e : H a = some (DtO a xs)) (hk : KeysI X.K H xs) (hb : SqT X.K H b (k.map V.int)) (hl : xs.length < sizeLine)
    (h1 : ∀ p, atKey xs k = some p → ∀ s', Inv X pins σ H s' → Q p.2 s') (h2 : atKey xs k = none → ∀ s', Inv X pins σ (upd H a (DtO a (storedH xs k b r))) s' → Q r s') :
    wpAny (model X.prog X.w) A (call (.builtin "dict.setdefault") [.ref a, .ref b, r]) Q E s := by
  obtain ⟨z, z2, dd⟩ := dtO_of I e hk
  exact call_setdefault_heap (hsz := z) (tupleKind_room_in1 hu) (key_int I hb) z2 dd (fun p hp => h1 p hp _ (I.tok _)) fun hn h' dd' hs => h2 hn _ (dt_written I e hl hs dd')
theorem dt_get1 {Q : Value → Shared → Prop} (hu : A.units + 1 < cLine) (I : Inv X pins σ H s) (e : H a = some (DtO a xs)) (hk : KeysI X.K H xs) (hb : SqT X.K H b (k.map V.int))
    (h : ∀ s', Inv X pins σ H s' → Q (((atKey xs k).map (·.2)).getD .none) s') : wpAny (model X.prog X.w) A (call (.builtin "dict.get") [.ref a, .ref b]) Q E s := by
  obtain ⟨z, z2, dd⟩ := dtO_of I e hk
  exact call_meetsIn PySem.F.slot_dict_get dd.typeIs PySem.F.entry_dict_get (PySem.F.args_dict_get_2 _ _) (meetsH_dict_get (tupleKind (PySem.intKind X.prog X.w)) a b z2) ⟨tupleKind_room_in1 hu, k, xs, key_int I hb, dd, h _ (I.tok _)⟩
theorem dt_get2 {Q : Value → Shared → Prop} (hu : A.units + 1 < cLine) (I : Inv X pins σ H s) (e : H a = some (DtO a xs)) (hk : KeysI X.K H xs) (hb : SqT X.K H b (k.map V.int))
    (h : ∀ s', Inv X pins σ H s' → Q (((atKey xs k).map (·.2)).getD r) s') : wpAny (model X.prog X.w) A (call (.builtin "dict.get") [.ref a, .ref b, r]) Q E s := by
  obtain ⟨z, z2, dd⟩ := dtO_of I e hk
  exact call_meetsIn PySem.F.slot_dict_get dd.typeIs PySem.F.entry_dict_get (PySem.F.args_dict_get_3 _ _ _) (meetsH_dict_get_default (tupleKind (PySem.intKind X.prog X.w)) a b z2 r) ⟨tupleKind_room_in1 hu, k, xs, key_int I hb, dd, h _ (I.tok _)⟩
theorem dt_new {Q : Value → Shared → Prop} {pos : Pos} (I : Inv X pins σ H s) (h : ∀ p s', H p = none → Inv X pins σ (upd H p (DtO p [])) s' → Q (.ref p) s') : wpAny (model X.prog X.w) A (eval (.Dict [] [] pos) X.env) Q E s := by
  refine wpAny_Dict_empty (h s.heap.objs.size _ (I.hok.fresh (Nat.le_refl _)) (I.laid (a := s.heap.objs.size) (t' := s.toks) (fun _ _ q => Heap.get?_push_of_some _ q) (Nat.le_refl _) (dtO_ok ?_)))
  refine ⟨Nat.zero_le _, ?_, _, #[], 0, Heap.get?_push_size _ rfl, ⟨rfl, rfl, rfl⟩, rfl, rfl, List.nodup_nil⟩
  have hb : sysModules < s.heap.objs.size := Inv.big I
  simp only [beq_eq_false_iff_ne, ne_eq]
  intro z
  rw [z] at hb
  exact Nat.lt_irrefl _ hb
theorem dt_type (I : Inv X pins σ H s) (e : H a = some (DtO a xs)) : s.TypeIs (.ref a) "dict" := by
  obtain ⟨_, _, o, _, _, e1, e2, _⟩ := dtO_raw I e
  exact ⟨o, e1, e2.1⟩
theorem dt_noDict (I : Inv X pins σ H s) (e : H a = some (DtO a xs)) : ∀ b, Value.ref a = .ref b → ∃ ob, s.heap.get? b = some ob ∧ ob.dict = none := fun b q => by
  cases q
  obtain ⟨_, _, o, _, _, e1, e2, _⟩ := dtO_raw I e
  exact ⟨o, e1, e2.2.1⟩
end
end Bk

/-! BkGx: generator expressions that a built-in consumes. -/
namespace Bk
open PySem PySem.Spec PyProof.Rows L2
section
variable {X : Cx} {pins : List (Addr × Obj)} {σ : L2.St} {H : Hp} {s : Shared}
/-- an element's answer, as a value -/
def ValIs (q : PyData) (y : Value) : Prop := match q with
  | .bool b => y = .bool b
  | .int n => ∃ t, y = .int n t
  | _ => False
theorem valIs_of {h : Heap} {y : Value} {q : PyData} (r : Rdv h y q) (hq : isRes q = true) : ValIs q y := by
  obtain ⟨as, r⟩ := r
  cases r <;> first | rfl | exact ⟨_, rfl⟩ | cases hq
/-- the generator g, ready to be walked, in the state s5; H1: what was held before -/
def ReadyD (X : Cx) (pins : List (Addr × Obj)) (σ : L2.St) (H1 : Hp) (P : Addr) (qs : List PyData) (g : Addr) (s5 : Shared) : Prop :=
  ∃ (fp wr : List Addr) (G : Array GenState → Array GenState → Prop) (F : Nat → Value → Prop) (St : Nat → Shared → Prop),
    WalksS X.prog X.w X.A.in1.in1 g fp wr G qs.length F St ∧ WalksS X.prog X.w X.A.in1 g fp wr G qs.length F St ∧ St 0 s5 ∧ (∀ b ∈ fp, b < s5.heap.objs.size) ∧ g ∈ fp ∧ (∀ i s9, St i s9 → s9.TypeIs (.ref g) "generator") ∧
    (∀ j v, F j v → ∃ q, qs[j]? = some q ∧ ValIs q v) ∧
    ∀ s', Moved wr G s5 s' → ∃ H2, GxR.Tabbed P H1 H2 ∧ Inv X pins σ H2 s'
/-- where a captured name's value lies -/
def CapAt (X : Cx) (scope : Scope) (h : Heap) (y : Str) (p : PyData) : Prop :=
  (y == ("__debug__" : Str)) = false ∧ (((y == ("__classdict__" : Str)) = false ∧ (y, NameKind.free) ∈ scope.names ∧ scope.names.lookup y = some .free ∧ ∃ cc u, X.env.cells.lookup y = some cc ∧ h.IsCell cc (some u) ∧ Rdv h u p) ∨
    (scope.names.lookup y = some .globalImplicit ∧ ∃ u, X.mg y = some u ∧ Rdv h u p))
/-- where a name's value lies, in the generator's frame -/
def NameIs (X : Cx) (scope : Scope) (m : Str → Option Value) (h : Heap) (y : Str) (p : PyData) : Prop :=
  (∃ v, m y = some v ∧ scope.names.lookup y = some .local ∧ (y == ("__debug__" : Str)) = false ∧ Rdv h v p) ∨ CapAt X scope h y p
/-- the generator's scope, but for its own names -/
structure GenT (env : Env) (scope : Scope) : Prop where
  kind : scope.kind = .function
  co : scope.isCoroutine = false
  cell : ∀ y ∈ scope.names, y.2 ≠ .cell
  dot : scope.names.lookup (".0" : Str) = some NameKind.local
  free : ∀ y ∈ scope.names, y.2 = .free → ∃ c, env.cells.lookup y.1 = some c
/-- the names in the generator's frame stand for what they should -/
theorem nm_gen {scope : Scope} {cenv : Env} {s2 : Shared} {m : Str → Option Value} {env : Str → Option PyData} (S : GenT X.env scope) (hsc : cenv.scope = scope) (hcl : cenv.cells = cloFrom X.env.cells scope.names []) (hn : s2.heap.Ns cenv.locals m)
    (hglob : ∀ s', Keeps s2 s' → s'.heap.Ns cenv.globals X.mg) (hcap : ∀ y p, env y = some p → NameIs X scope m s2.heap y p) : NmK X.prog X.w cenv env s2 := by
  subst hsc
  rintro s' k' y p ey A2 E2 Q2 pos h2
  rcases hcap y p ey with ⟨v, hm, hlk, dbg, rv⟩ | ⟨dbg, ⟨cld, hmem, hlk, cc, u, hcc, hcell, ru⟩ | ⟨hlk, u, hmu, ru⟩⟩
  · obtain ⟨h1, t1, rfl, k1⟩ := k'
    refine wpAny_Name (wpAny_loadName_local S.kind hlk (hn.keeps k1) hm (h2 _ ?_)) dbg
    obtain ⟨as, r⟩ := rv
    exact ⟨as, Reads.keeps k1 r⟩
  · obtain ⟨h1, t1, rfl, k1⟩ := k'
    have hcl2 : cenv.cells.lookup y = some cc := by rw [hcl]; exact NdefX.clo_has S.free hmem hcc
    refine wpAny_Name (wpAny_loadName_free S.kind hlk hcl2 ?_ (h2 u ?_) cld) dbg
    · obtain ⟨oc, eo, ed⟩ := hcell
      exact ⟨oc, k1 _ _ eo, ed⟩
    · obtain ⟨as, r⟩ := ru
      exact ⟨as, Reads.keeps k1 r⟩
  · exact Calls.Name_function_global S.kind hlk (Calls.loadGlobal_global (hglob s' k') hmu (h2 u (Rdv.keep (s := s2) ru k'))) dbg
theorem ln_gen {scope : Scope} {cenv : Env} {s2 : Shared} {mb : Str → Option Value} (S : GenT X.env scope) (hsc : cenv.scope = scope) (hlk : scope.names.lookup ("len" : Str) = some .globalImplicit) (hm : X.mg "len" = none)
    (hglob : ∀ s', Keeps s2 s' → s'.heap.Ns cenv.globals X.mg) (hbl : s2.heap.Ns cenv.builtins mb) (hb : mb "len" = bootBuiltins "len") : LnK X.prog X.w cenv s2 := by
  subst hsc
  intro s' k' A2 E2 Q2 pos h2
  refine Calls.Name_function_global S.kind hlk (Calls.loadGlobal_builtin (hglob s' k') hm (mb := mb) ?_ (hb.trans rfl) h2) rfl
  obtain ⟨h1, t1, rfl, k1⟩ := k'
  exact hbl.keeps k1
/-- the code object of the generator is made, or met in the def's table -/
theorem gen_code {c P : Addr} {gpos : Pos} {scope : Scope} {k : Nat} {Q2 : Value → Addr → Shared → Prop} {s1 : Shared} {H1 : Hp} {h2 : Heap} {tk2 : Nat}
    (hr : Room k X.A) (TB : GxR.TabB X.base X.mg c P) (hcode : X.env.code = .ref c) (I1 : Inv X pins σ H1 s1) (hk2 : ∀ b u, s1.heap.get? b = some u → h2.get? b = some u) {ps : Array Value} (hP : H1 P = some (.tbl ps)) (ht : TriplesOk ps.toList)
    (h : ∀ (code : Value) (bi : Addr) (h3 : Heap) (tk : Nat) (more : Array Value), Heap.ExtBut P h2 h3 → h2.objs.size ≤ h3.objs.size → h3.get? P = some { cls := .none, data := .fields (ps ++ more) } → TriplesOk (ps ++ more).toList → h3.NoLimit → h3.Ns X.env.globals X.mg →
      bi = builtinsNs → Q2 code bi { s1 with heap := h3, toks := tk }) :
    wpAny (model X.prog X.w) X.A (genexprCode X.env gpos (X.env.qual ++ "<genexpr>") scope) (fun code s₃ => wpAny (model X.prog X.w) X.A (builtinsFor X.env.globals X.env.builtins) (fun bi s₄ => Q2 code bi s₄) X.xe s₃) X.xe { s1 with heap := h2, toks := tk2 } := by
  have hPs : s1.heap.get? P = some { cls := .none, data := .fields ps } := I1.hok P _ hP
  have hP2 : h2.get? P = some { cls := .none, data := .fields ps } := hk2 _ _ hPs
  have cd : PySem.W.CodeHd h2 c P := TB.code.keeps fun b u e => hk2 b u (I1.bk b u e)
  have lim2 : h2.NoLimit := I1.nolimit.keeps hk2
  have hcP : cStatics ≠ P := fun e => by
    obtain ⟨_, hns, _⟩ := I1.nolimit
    obtain ⟨o', es, ep, ho, hd, _⟩ := hns
    rw [e, hPs] at ho
    cases ho
    cases hd
  have cont : ∀ (code : Value) (h3 : Heap) (tk : Nat) (ps' : Array Value), Heap.ExtBut P h2 h3 → h2.objs.size ≤ h3.objs.size → h3.get? P = some { cls := .none, data := .fields ps' } → (∃ more, ps' = ps ++ more) → TriplesOk ps'.toList →
      wpAny (model X.prog X.w) X.A (builtinsFor X.env.globals X.env.builtins) (fun bi s₄ => Q2 code bi s₄) X.xe { s1 with heap := h3, toks := tk } := by
    intro code h3 tk ps' hxt hsz hP3 hmore ht3
    obtain ⟨more, rfl⟩ := hmore
    obtain ⟨bm, ob, e1, e2, e3, e4, e5, e6, e7, e8⟩ := TB.bm
    have glob : h3.Ns X.env.globals X.mg := by
      rw [I1.ok.glob]
      exact ((I1.mod.glob.keeps I1.bk).keeps hk2).extBut hxt TB.gP
    refine wpAny_builtinsFor (m := X.mg) glob e1 e2 (hxt _ _ e4 (hk2 _ _ (I1.bk _ _ e5))) e6 e7 e8 ?_
    exact h code _ h3 tk more hxt hsz hP3 ht3 (lim2.extBut hxt hcP) glob rfl
  cases hf : codeAmong gpos ps.toList with
  | none =>
    refine wpAny_genexprCodeX hcode (cd.code hP2 ht) (cd.tab hP2) hf fun c' h' tk hx hge hlt hco' _ htab' _ => ?_
    obtain ⟨o1, vs, f1, tf, fl, tg, inF, tx, tt, op, _, _, _, _, _, _, _, _, _, htr, _⟩ := hco'
    exact cont _ h' tk _ hx (Nat.le_trans hge (Nat.le_of_lt hlt)) htab'.2 ⟨_, rfl⟩ htr
  | some cv =>
    refine wpAny_genexprCode_hit hcode (cd.code hP2 ht) hf ?_
    exact cont cv h2 tk2 ps (Heap.ExtBut.refl _ _) (Nat.le_refl _) hP2 ⟨#[], by simp⟩ ht
/-! ### what is tested -/
theorem gTest_ok {prog : Program} {w : World} {cenv : Env} {env : Str → Option PyData} {ln : Bool} {N : Nat} {ifs : List Expr} {b : Bool} (h : gTest ln env N ifs = some b) {A : Around} {E : Value → Shared → Prop} {s2 : Shared} (hh : A.handled = none) (hu : A.units + 80 < cLine)
    (nm : NmK prog w cenv env s2 ∧ (ln = true → LnK prog w cenv s2)) :
    wpAny (model prog w) A (forIn ifs true fun c r => if r = true then do let ok ← isTrue c cenv (eval c cenv); pure (ForInStep.yield ok) else pure (ForInStep.yield r)) (fun ok s₃ => ok = b ∧ Keeps s2 s₃) E s2 := by
  unfold gTest at h
  split at h
  · cases h
    rw [List.forIn_nil]
    exact wpAny_pure ⟨rfl, Keeps.rfl' _⟩
  · split at h
    · rename_i a op b' pos hg
      split at h
      · rename_i x y ea eb
        rw [List.forIn_cons]
        refine wpAny_bind ?_
        rw [if_pos rfl]
        refine wpAny_bind (wpAny_isTrue_Compare1 (gD_ok N a x ea s2 A E _ hh hu nm fun v s' rv k => ?_) (gMark (by simpa using hg)))
        refine gD_ok N b' y eb s' A E _ hh hu ⟨nm.1.keep k, fun q => (nm.2 q).keep k⟩ fun v2 s3 rv2 k2 => ?_
        refine cmpP_ok h (rv.keep k2) rv2 hu (wpAny_truthy_bool ?_)
        refine wpAny_pure ?_
        simp only [List.forIn_nil]
        exact wpAny_pure ⟨rfl, Keeps.tr k k2⟩
      · cases h
    · cases h
  · cases h
/-! ### a turn's state, the end's state -/
theorem inv_turn {P : Addr} {s1 s2 : Shared} {H1 : Hp} {h2 h3 href : Heap} {wr : List Addr} {ps more : Array Value} (I1 : Inv X pins σ H1 s1) (hk2 : ∀ b u, s1.heap.get? b = some u → h2.get? b = some u) (hP : H1 P = some (.tbl ps))
    (hxt : Heap.ExtBut P h2 h3) (hsz : h2.objs.size ≤ h3.objs.size) (hP3 : h3.get? P = some { cls := .none, data := .fields (ps ++ more) }) (hwr : ∀ b ∈ wr, s1.heap.objs.size ≤ b) (hlt : s1.heap.objs.size ≤ h3.objs.size) (hhref : ∀ b o, h3.get? b = some o → href.get? b = some o)
    (hk : ∀ b ∈ List.range h3.objs.size, b ∉ wr → ∀ o, href.get? b = some o → s2.heap.get? b = some o) : Inv X pins σ (upd H1 P (.tbl (ps ++ more))) { s1 with heap := s2.heap, gens := s1.gens, drawn := s1.drawn, toks := s2.toks } := by
  have nwr : ∀ b u, s1.heap.get? b = some u → b ∉ wr := fun b u e hb => by
    exact Nat.lt_irrefl _ (Nat.lt_of_lt_of_le (Heap.lt_size e) (hwr b hb))
  have hPs := I1.hok P _ hP
  refine GxR.inv_tab (more := more) (h' := s2.heap) (g' := s1.gens) (d' := s1.drawn) (t' := s2.toks) I1 hP (fun b u hb e => ?_) ?_ I1.bare
  · exact hk b (List.mem_range.mpr (show b < h3.objs.size from Nat.lt_of_lt_of_le (Heap.lt_size e) hlt)) (nwr b u e) u (hhref b u (hxt b u hb (hk2 b u e)))
  · exact hk P (List.mem_range.mpr (show P < h3.objs.size from Nat.lt_of_lt_of_le (Heap.lt_size hPs) hlt)) (nwr P _ hPs) _ (hhref P _ hP3)
theorem inv_end {P C : Addr} {s1 s' : Shared} {H1 : Hp} {h2 h3 h5 : Heap} {wr : List Addr} {ps more : Array Value} {gs : GenState} {tk5 : Nat} (I1 : Inv X pins σ H1 s1) (hk2 : ∀ b u, s1.heap.get? b = some u → h2.get? b = some u) (hP : H1 P = some (.tbl ps))
    (hxt : Heap.ExtBut P h2 h3) (hP3 : h3.get? P = some { cls := .none, data := .fields (ps ++ more) }) (ht3 : TriplesOk (ps ++ more).toList) (hwr : ∀ b ∈ wr, s1.heap.objs.size ≤ b) (hC : s1.heap.objs.size ≤ C) (hk5 : ∀ b o, h3.get? b = some o → h5.get? b = some o) (hgb : gs.bare = true)
    (hm : Moved (C :: wr) (GenOnlyQ s1.gens.size) { s1 with gens := s1.gens.push gs, toks := tk5, heap := h5 } s') : ∃ H2, GxR.Tabbed P H1 H2 ∧ Inv X pins σ H2 s' := by
  have nwr : ∀ b u, s1.heap.get? b = some u → b ∉ C :: wr := fun b u e hb => by
    have hl : b < s1.heap.objs.size := Heap.lt_size e
    rcases List.mem_cons.mp hb with z | z
    · rw [z] at hl
      exact Nat.lt_irrefl _ (Nat.lt_of_lt_of_le hl hC)
    · exact Nat.lt_irrefl _ (Nat.lt_of_lt_of_le hl (hwr b z))
  have hPs := I1.hok P _ hP
  have J := GxR.inv_tab (more := more) (h' := s'.heap) (g' := s'.gens) (d' := s'.drawn) (t' := s'.toks) I1 hP (fun b u hb e => hm.heap b u (nwr b u e) (hk5 b u (hxt b u hb (hk2 b u e))))
    (hm.heap P _ (nwr P _ hPs) (hk5 P _ hP3)) (AllBare.movedS (I1.bare.push hgb) hm)
  rw [GxR.sh_eta s1 s' hm.os] at J
  exact ⟨upd H1 P (.tbl (ps ++ more)), ⟨⟨ps ++ more, upd_same, ht3⟩, fun b hb => upd_ne hb⟩, J⟩
/-- a turn: its names, its test, its element -/
def TurnD (X : Cx) (pins : List (Addr × Obj)) (σ : L2.St) (H1 : Hp) (P : Addr) (ln : Bool) (N : Nat) (scope : Scope) (ifs : List Expr) (elt : Expr) (pz : Nat → Bool) (qf : Nat → Option PyData) (i : Nat) (m : Str → Option Value) : Prop :=
  ∀ (s2 : Shared) (H2 : Hp), GxR.Tabbed P H1 H2 → Inv X pins σ H2 s2 → ∃ env : Str → Option PyData, (∀ y p, env y = some p → NameIs X scope m s2.heap y p) ∧ gTest ln env N ifs = some (pz i) ∧
    (pz i = true → ∃ q, qf i = some q ∧ isRes q = true ∧ gD ln env N elt = some q)
theorem turn_both {P : Addr} {s1 s2 : Shared} {H1 : Hp} {ln : Bool} {N i : Nat} {scope : Scope} {ifs : List Expr} {elt : Expr} {pz : Nat → Bool} {qf : Nat → Option PyData} {m : Str → Option Value} {cenv : Env} {A' : Around} {ps more : Array Value}
    (T : TurnD X pins σ H1 P ln N scope ifs elt pz qf i m) (hln : ln = true → scope.names.lookup ("len" : Str) = some .globalImplicit ∧ X.mg "len" = none) (S : GenT X.env scope) (hsc : cenv.scope = scope) (hcl : cenv.cells = cloFrom X.env.cells scope.names []) (hcg : cenv.globals = X.env.globals) (hcb : cenv.builtins = builtinsNs)
    (hn : s2.heap.Ns cenv.locals m) (J : Inv X pins σ (upd H1 P (.tbl (ps ++ more))) { s1 with heap := s2.heap, gens := s1.gens, drawn := s1.drawn, toks := s2.toks }) (ht3 : TriplesOk (ps ++ more).toList) (hA : A'.handled = none) (hu : A'.units + 80 < cLine) :
    (∀ E', wpAny (model X.prog X.w) A' (forIn ifs true fun c r => if r = true then do let ok ← isTrue c cenv (eval c cenv); pure (ForInStep.yield ok) else pure (ForInStep.yield r)) (fun ok s₃ => ok = pz i ∧ Keeps s2 s₃) E' s2) ∧
    (pz i = true → ∀ E', wpAny (model X.prog X.w) A' (eval elt cenv) (fun y s₃ => (∃ q, qf i = some q ∧ ValIs q y) ∧ Keeps s2 s₃) E' s2) := by
  obtain ⟨env, hcap, ht, he⟩ := T _ _ ⟨⟨ps ++ more, upd_same, ht3⟩, fun b hb => upd_ne hb⟩ J
  have hglob : ∀ s', Keeps s2 s' → s'.heap.Ns cenv.globals X.mg := fun s' k' => by
    obtain ⟨h1, t1, rfl, k1⟩ := k'
    rw [hcg, J.ok.glob]
    exact (J.mod.glob.keeps J.bk).keeps k1
  have nm : NmK X.prog X.w cenv env s2 ∧ (ln = true → LnK X.prog X.w cenv s2) := by
    refine ⟨nm_gen S hsc hcl hn hglob hcap, fun hl => ?_⟩
    obtain ⟨l1, l2⟩ := hln hl
    obtain ⟨mb, b1, b2⟩ := J.mod.blt
    exact ln_gen (mb := mb) S hsc l1 l2 hglob (by rw [hcb]; exact b1.keeps J.bk) (b2 "len" (by decide))
  refine ⟨fun E' => gTest_ok ht hA hu nm, fun hp E' => ?_⟩
  obtain ⟨q, eq, hq, eg⟩ := he hp
  exact gD_ok N elt q eg s2 A' E' _ hA hu nm fun y s₃ ry k3 => ⟨⟨q, eq, valIs_of ry hq⟩, k3⟩
/-- what is asked of an iterator's state -/
structure GIt (X : Cx) (pins : List (Addr × Obj)) (σ : L2.St) (P : Addr) (s1 : Shared) (H1 : Hp) (h2 : Heap) (fp wr : List Addr) (St₀ : Nat → Heap → Prop) : Prop where
  I1 : Inv X pins σ H1 s1
  tab : GxR.TabG H1 P
  hk2 : ∀ b u, s1.heap.get? b = some u → h2.get? b = some u
  hlt : s1.heap.objs.size ≤ h2.objs.size
  hst : ∀ h3 : Heap, (∀ b u, b ≠ P → h2.get? b = some u → h3.get? b = some u) → St₀ 0 h3
  hfp : ∀ b ∈ fp, b < h2.objs.size
  hwr : ∀ b ∈ wr, s1.heap.objs.size ≤ b
/-- the results in their order -/
def ResIs (pz : Nat → Bool) (n : Nat) (qf : Nat → Option PyData) (qs : List PyData) : Prop := (passing pz n 0).length = qs.length ∧ ∀ j i : Nat, (passing pz n 0)[j]? = some i → qf i = qs[j]?
/-- one name, any target: the generator is ready -/
theorem gen_name {c P : Addr} {elt iter : Expr} {x : Str} {px gpos : Pos} {scope : Scope} {ifs : List Expr} {k N : Nat} {Q' : Value → Shared → Prop} {ln : Bool} (hln : ln = true → scope.names.lookup ("len" : Str) = some .globalImplicit ∧ X.mg "len" = none)
    (hr : Room k X.A) (hu : X.A.units + 90 < cLine) (TB : GxR.TabB X.base X.mg c P) (hcode : X.env.code = .ref c) (S : GenT X.env scope) (hxl : scope.names.lookup x = some .local)
    (h : wpAny (model X.prog X.w) X.A (eval iter X.env) (fun xv s₁ => wpAny (model X.prog X.w) X.A (pyIter xv) (fun it s₂ => ∃ (s1 : Shared) (H1 : Hp) (h2 : Heap) (tk2 : Nat) (Ia : Addr) (fp wr : List Addr) (n : Nat) (Pf : Nat → Value → Prop) (St₀ : Nat → Heap → Prop) (pz : Nat → Bool) (qf : Nat → Option PyData) (qs : List PyData),
      it = .ref Ia ∧ s₂ = { s1 with heap := h2, toks := tk2 } ∧ GIt X pins σ P s1 H1 h2 fp wr St₀ ∧ (∀ A' : Around, A'.handled = none → Walks X.prog X.w A' Ia fp wr n Pf St₀) ∧ ResIs pz n qf qs ∧
      (∀ i v m, Pf i v → m x = some v → TurnD X pins σ H1 P ln N scope ifs elt pz qf i m) ∧ (∀ g s5, ReadyD X pins σ H1 P qs g s5 → Q' (.ref g) s5)) X.xe s₁) X.xe s)
    (hs : ∀ v, genFold iter X.env v = pure v) :
    wpAny (model X.prog X.w) X.A (eval (.GeneratorExp elt [⟨.Name x px, iter, ifs, 0⟩] scope gpos) X.env) Q' X.xe s := by
  refine wpAny_GeneratorExp_walksQD hr.hd S.co (closure_ok S.free) S.cell S.dot hxl S.kind (by have := hr.dp; omega) (wpAny_mono h (fun xv s₁ h₁ => wpAny_mono h₁ (fun it s₂ h₂ => ?_) fun _ _ e => e) fun _ _ e => e) hs
  obtain ⟨s1, H1, h2, tk2, Ia, fp, wr, n, Pf, St₀, pz, qf, qs, rfl, rfl, ⟨I1, ⟨ps, hP, ht⟩, hk2, hlt, hst, hfp, hwr⟩, W, hres, hel, hQ⟩ := h₂
  refine ⟨I1.nolimit.keeps hk2, gen_code (c := c) (P := P) hr TB hcode I1 hk2 hP ht fun code bi h3 tk more hxt hsz hP3 ht3 hl3 glob3 hbi => ?_⟩
  have hcl : cStatics < s1.heap.objs.size := let ⟨_, hns, _⟩ := I1.nolimit; hns.lt
  refine ⟨Ia, fp, wr, n, Pf, St₀, pz, fun i y => ∃ q, qf i = some q ∧ ValIs q y, rfl, W, hst h3 hxt, fun b hb => Nat.lt_of_lt_of_le (hfp b hb) hsz, hl3, fun z => absurd (hwr _ z) (Nat.not_le.mpr hcl), ?_, ?_⟩
  · intro href hhref
    refine ⟨fun A' E' i v s₂ m₂ hA _ hU hPv hn hm hk => ?_, fun A' E' i v s₂ m₂ hA _ hU hPv hp hn hm hk => ?_⟩
    · exact (turn_both (cenv := genEnv scope (cloFrom X.env.cells scope.names []) h3.objs.size code bi X.env) (hel i v m₂ hPv hm) hln S rfl rfl rfl hbi hn (inv_turn I1 hk2 hP hxt hsz hP3 hwr (Nat.le_trans hlt hsz) hhref hk) ht3 hA (by omega)).1 E'
    · exact (turn_both (cenv := genEnv scope (cloFrom X.env.cells scope.names []) h3.objs.size code bi X.env) (hel i v m₂ hPv hm) hln S rfl rfl rfl hbi hn (inv_turn I1 hk2 hP hxt hsz hP3 hwr (Nat.le_trans hlt hsz) hhref hk) ht3 hA (by omega)).2 hp E'
  · intro g h5 tk5 gs hgb hag hsz5 hk5 W5 hgat
    rw [hres.1] at W5
    refine hQ g _ ⟨_, _, _, _, _, W5.in4_2, W5.in4_1, hgat, ?_, List.mem_cons_self, fun i s9 h9 => ?_, ?_, fun s' hm => ?_⟩
    · intro b hb
      show b < h5.objs.size
      have e5 : h5.objs.size = g + 1 := hsz5
      have h8 : h3.objs.size < g := hag
      rw [e5]
      rcases List.mem_cons.mp hb with z | z
      · rw [z]
        exact Nat.lt_succ_self g
      · rcases List.mem_cons.mp z with z | z
        · rw [z]
          exact Nat.lt_succ_of_lt h8
        · have z2 := List.mem_range.mp z
          have h7 : b < h3.objs.size := z2
          exact Nat.lt_succ_of_lt (Nat.lt_trans h7 h8)
    · obtain ⟨hg9, _⟩ := h9
      exact hg9.typeIs
    · intro j v hv
      obtain ⟨i, hij, q, hq, e⟩ := hv
      exact ⟨q, (hres.2 j i hij).symm.trans hq, e⟩
    · exact inv_end (C := h3.objs.size) I1 hk2 hP hxt hP3 ht3 hwr (Nat.le_trans hlt hsz) hk5 hgb hm
/-- two names -/
theorem gen_two {c P : Addr} {elt iter : Expr} {xa xb : Str} {pa pb pt gpos : Pos} {kt : Nat} {scope : Scope} {ifs : List Expr} {k N : Nat} {Q' : Value → Shared → Prop} {ln : Bool} (hln : ln = true → scope.names.lookup ("len" : Str) = some .globalImplicit ∧ X.mg "len" = none)
    (hr : Room k X.A) (hu : X.A.units + 90 < cLine) (TB : GxR.TabB X.base X.mg c P) (hcode : X.env.code = .ref c) (S : GenT X.env scope) (hxa : scope.names.lookup xa = some .local) (hxb : scope.names.lookup xb = some .local) (hab : xa ≠ xb)
    (h : wpAny (model X.prog X.w) X.A (eval iter X.env) (fun xv s₁ => wpAny (model X.prog X.w) X.A (pyIter xv) (fun it s₂ => ∃ (s1 : Shared) (H1 : Hp) (h2 : Heap) (tk2 : Nat) (Ia : Addr) (fp wr : List Addr) (n : Nat) (Pt : Nat → Array Value → Prop) (St₀ : Nat → Heap → Prop) (Mid : Nat → Addr → Heap → Prop) (pz : Nat → Bool) (qf : Nat → Option PyData) (qs : List PyData),
      it = .ref Ia ∧ s₂ = { s1 with heap := h2, toks := tk2 } ∧ GIt X pins σ P s1 H1 h2 fp wr St₀ ∧ (∀ A' : Around, A'.handled = none → WalksU X.prog X.w A' Ia fp wr n Pt St₀ Mid) ∧ (∀ i vals, Pt i vals → ∃ va vb, vals = #[va, vb]) ∧ ResIs pz n qf qs ∧
      (∀ i va vb m, Pt i #[va, vb] → m xa = some va → m xb = some vb → TurnD X pins σ H1 P ln N scope ifs elt pz qf i m) ∧ (∀ g s5, ReadyD X pins σ H1 P qs g s5 → Q' (.ref g) s5)) X.xe s₁) X.xe s)
    (hs : ∀ v, genFold iter X.env v = pure v) :
    wpAny (model X.prog X.w) X.A (eval (.GeneratorExp elt [⟨.Tuple [.Name xa pa, .Name xb pb] kt pt, iter, ifs, 0⟩] scope gpos) X.env) Q' X.xe s := by
  refine wpAny_GeneratorExp_walksQTD hr.hd S.co (closure_ok S.free) S.cell S.dot hxa hxb hab S.kind (by have := hr.dp; omega) (wpAny_mono h (fun xv s₁ h₁ => wpAny_mono h₁ (fun it s₂ h₂ => ?_) fun _ _ e => e) fun _ _ e => e) hs
  obtain ⟨s1, H1, h2, tk2, Ia, fp, wr, n, Pt, St₀, Mid, pz, qf, qs, rfl, rfl, ⟨I1, ⟨ps, hP, ht⟩, hk2, hlt, hst, hfp, hwr⟩, W, htw, hres, hel, hQ⟩ := h₂
  refine ⟨I1.nolimit.keeps hk2, gen_code (c := c) (P := P) hr TB hcode I1 hk2 hP ht fun code bi h3 tk more hxt hsz hP3 ht3 hl3 glob3 hbi => ?_⟩
  have hcl : cStatics < s1.heap.objs.size := let ⟨_, hns, _⟩ := I1.nolimit; hns.lt
  refine ⟨Ia, fp, wr, n, Pt, St₀, Mid, pz, fun i y => ∃ q, qf i = some q ∧ ValIs q y, rfl, W, htw, hst h3 hxt, fun b hb => Nat.lt_of_lt_of_le (hfp b hb) hsz, hl3, fun z => absurd (hwr _ z) (Nat.not_le.mpr hcl), ?_, ?_⟩
  · intro href hhref
    refine ⟨fun A' E' i va vb s₂ m₂ hA _ hU hPv hn hma hmb hk => ?_, fun A' E' i va vb s₂ m₂ hA _ hU hPv hp hn hma hmb hk => ?_⟩
    · exact (turn_both (cenv := genEnv scope (cloFrom X.env.cells scope.names []) h3.objs.size code bi X.env) (hel i va vb m₂ hPv hma hmb) hln S rfl rfl rfl hbi hn (inv_turn I1 hk2 hP hxt hsz hP3 hwr (Nat.le_trans hlt hsz) hhref hk) ht3 hA (by omega)).1 E'
    · exact (turn_both (cenv := genEnv scope (cloFrom X.env.cells scope.names []) h3.objs.size code bi X.env) (hel i va vb m₂ hPv hma hmb) hln S rfl rfl rfl hbi hn (inv_turn I1 hk2 hP hxt hsz hP3 hwr (Nat.le_trans hlt hsz) hhref hk) ht3 hA (by omega)).2 hp E'
  · intro g h5 tk5 gs hgb hag hsz5 hk5 W5 hgat
    rw [hres.1] at W5
    refine hQ g _ ⟨_, _, _, _, _, W5.in4_2, W5.in4_1, hgat, ?_, List.mem_cons_self, fun i s9 h9 => ?_, ?_, fun s' hm => ?_⟩
    · intro b hb
      show b < h5.objs.size
      have e5 : h5.objs.size = g + 1 := hsz5
      have h8 : h3.objs.size < g := hag
      rw [e5]
      rcases List.mem_cons.mp hb with z | z
      · rw [z]
        exact Nat.lt_succ_self g
      · rcases List.mem_cons.mp z with z | z
        · rw [z]
          exact Nat.lt_succ_of_lt h8
        · have z2 := List.mem_range.mp z
          have h7 : b < h3.objs.size := z2
          exact Nat.lt_succ_of_lt (Nat.lt_trans h7 h8)
    · obtain ⟨hg9, _⟩ := h9
      exact hg9.typeIs
    · intro j v hv
      obtain ⟨i, hij, q, hq, e⟩ := hv
      exact ⟨q, (hres.2 j i hij).symm.trans hq, e⟩
    · exact inv_end (C := h3.objs.size) I1 hk2 hP hxt hP3 ht3 hwr (Nat.le_trans hlt hsz) hk5 hgb hm
end
end Bk

/-! BkGy: generator expressions whose target is a name and a tuple of names. -/
namespace Bk
open PySem PySem.Spec PyProof.Rows L2
def storeAll (m : Str → Option Value) : List (Str × Pos) → List Value → Str → Option Value
  | x :: xs, v :: vs => storeAll (fun y => if y = x.1 then some v else m y) xs vs
  | _, _ => m
theorem storeAll_at : ∀ (xs : List (Str × Pos)) (vs : List Value) (m : Str → Option Value) (acc : List Str) (accv : List Value), xs.length = vs.length → (∀ y k, nameAt acc y = some k → m y = accv[k]?) →
    ∀ y k, nameAt ((xs.map (·.1)).reverse ++ acc) y = some k → storeAll m xs vs y = (vs.reverse ++ accv)[k]?
  | [], [], m, acc, accv, _, h, y, k, e => h y k e
  | x :: xs, v :: vs, m, acc, accv, hl, h, y, k, e => by
    rw [List.map_cons, List.reverse_cons, List.append_assoc] at e
    rw [List.reverse_cons, List.append_assoc]
    refine storeAll_at xs vs _ (x.1 :: acc) (v :: accv) (by simpa using hl) (fun y k e => ?_) y k e
    unfold nameAt at e
    by_cases c : y = x.1
    · rw [if_pos c] at e
      cases e
      exact if_pos c
    · rw [if_neg c] at e
      obtain ⟨j, hj, rfl⟩ := Option.map_eq_some_iff.mp e
      show (if y = x.1 then some v else m y) = accv[j]?
      rw [if_neg c]
      exact h y j hj
def nmE (x : Str × Pos) : Expr := .Name x.1 x.2
theorem each_names (cenv : Env) : ∀ xs : List (Str × Pos), (assignEach (xs.map nmE) cenv).map (·.2) = xs.map (fun x => assign (nmE x) cenv) ∧ (assignEach (xs.map nmE) cenv).length = xs.length ∧ (assignEach (xs.map nmE) cenv).findIdx? (·.1) = none
  | [] => ⟨rfl, rfl, rfl⟩
  | x :: xs => by
    obtain ⟨h1, h2, h3⟩ := each_names cenv xs
    have e : assignEach ((x :: xs).map nmE) cenv = (false, assign (nmE x) cenv) :: assignEach (xs.map nmE) cenv := rfl
    rw [e]
    refine ⟨by rw [List.map_cons, h1]; rfl, by rw [List.length_cons, h2]; rfl, ?_⟩
    rw [List.findIdx?_cons, h3]
    rfl
section
variable {prog : Program} {w : World} {B : Around} {E : Value → Shared → Prop} {cenv : Env}
theorem names_store (hp : (cenv.scope.kind == .class || (cenv.scope.kind == .module && cenv.locals != cenv.globals)) = false) : ∀ (xs : List (Str × Pos)) (vs : List Value) (s : Shared) (m : Str → Option Value) (Q : Shared → Prop), (∀ x ∈ xs, cenv.kindOf x.1 = some .local) → s.heap.Ns cenv.locals m →
    (∀ h t, h.Ns cenv.locals (storeAll m xs vs) → (∀ b o, b ≠ cenv.locals → s.heap.get? b = some o → h.get? b = some o) → Q { s with heap := h, toks := t }) →
    wpAny (model prog w) B (assignInOrder (xs.map fun x => assign (nmE x) cenv) vs) (fun _ s' => Q s') E s
  | [], vs, s, m, Q, _, hn, h => wpAny_pure (h s.heap s.toks hn fun _ _ _ e => e)
  | x :: xs, [], s, m, Q, _, hn, h => wpAny_pure (h s.heap s.toks hn fun _ _ _ e => e)
  | x :: xs, v :: vs, s, m, Q, hx, hn, h => by
    show wpAny _ _ (do holding vs (assign (nmE x) cenv v); assignInOrder (xs.map fun x => assign (nmE x) cenv) vs) _ _ _
    refine wpAny_bind (wpAny_holding (wpAny_assign_Name (wpAny_storeName_local (hx x List.mem_cons_self) hn (fun h1 hn1 hs1 => ?_) hp)))
    refine names_store hp xs vs _ _ Q (fun y hy => hx y (List.mem_cons_of_mem _ hy)) hn1 fun h2 t hn2 k2 => h h2 t hn2 fun b o nb e => k2 b o nb (hs1.extBut b o nb e)
theorem stores_nest {xs : List (Str × Pos)} {xa : Str} {pa p2 : Pos} {k2 : Nat} {va : Value} {b : Addr} {items : Array Value} {s : Shared} {m : Str → Option Value} {Q : Shared → Prop} (hB : B.handled = none) (hp : (cenv.scope.kind == .class || (cenv.scope.kind == .module && cenv.locals != cenv.globals)) = false)
    (hxa : cenv.kindOf xa = some .local) (hxs : ∀ x ∈ xs, cenv.kindOf x.1 = some .local) (hl : xs.length = items.size) (ht : s.heap.IsTuple b items) (hbl : b ≠ cenv.locals) (hn : s.heap.Ns cenv.locals m)
    (h : ∀ h' t m', h'.Ns cenv.locals m' → (∀ y k, nameAt ((xs.map (·.1)).reverse ++ [xa]) y = some k → m' y = (items.toList.reverse ++ [va])[k]?) → (∀ b o, b ≠ cenv.locals → s.heap.get? b = some o → h'.get? b = some o) → Q { s with heap := h', toks := t }) :
    wpAny (model prog w) B (stores [.Name xa pa, .Tuple (xs.map nmE) k2 p2] cenv [va, .ref b]) (fun _ s' => Q s') E s := by
  show wpAny _ _ (do holding [.ref b] (assign (.Name xa pa) cenv va); do holding [] (assign (.Tuple (xs.map nmE) k2 p2) cenv (.ref b)); pure ()) _ _ _
  refine wpAny_bind (wpAny_holding (wpAny_assign_Name (wpAny_storeName_local hxa hn (fun h1 hn1 hs1 => ?_) hp)))
  obtain ⟨e1, e2, e3⟩ := each_names cenv xs
  have ht1 : h1.IsTuple b items := by
    obtain ⟨o, e, r⟩ := ht
    exact ⟨o, hs1.extBut b o hbl e, r⟩
  refine wpAny_bind (wpAny_holding (wpAny_assign_Tuple hB ht1 (by rw [e2]; exact hl) e3 fun h2 x2 => ?_))
  rw [e1]
  replace x2 : Heap.ExtBut h1.objs.size h1 h2 := x2
  have k12 : ∀ b o, h1.get? b = some o → h2.get? b = some o := fun b o e => x2 b o (Nat.ne_of_lt (Heap.lt_size e)) e
  refine names_store (Q := fun s' => wpAny _ _ (pure ()) _ _ s') hp xs items.toList _ _ hxs (hn1.at' fun o e => k12 _ o e) fun h3 t hn3 k3 => wpAny_pure ?_
  refine h h3 t _ hn3 (storeAll_at xs items.toList _ [xa] [va] (by rw [Array.length_toList]; exact hl) fun y k e => ?_) fun c o nb e => k3 c o nb (k12 c o (hs1.extBut c o nb e))
  unfold nameAt at e
  by_cases c : y = xa
  · rw [if_pos c] at e
    cases e
    exact if_pos c
  · rw [if_neg c] at e
    cases e
end
section
variable {X : Cx} {pins : List (Addr × Obj)} {σ : L2.St} {H : Hp} {s : Shared}
/-- a turn, of what has kept the objects of s1 -/
def TurnK (X : Cx) (pins : List (Addr × Obj)) (σ : L2.St) (s1 : Shared) (H1 : Hp) (P : Addr) (ln : Bool) (N : Nat) (scope : Scope) (ifs : List Expr) (elt : Expr) (pz : Nat → Bool) (qf : Nat → Option PyData) (i : Nat) (m : Str → Option Value) : Prop :=
  ∀ (s2 : Shared) (H2 : Hp), GxR.Tabbed P H1 H2 → Inv X pins σ H2 s2 → (∀ b o, b ≠ P → s1.heap.get? b = some o → s2.heap.get? b = some o) → ∃ env : Str → Option PyData, (∀ y p, env y = some p → NameIs X scope m s2.heap y p) ∧ gTest ln env N ifs = some (pz i) ∧
    (pz i = true → ∃ q, qf i = some q ∧ isRes q = true ∧ gD ln env N elt = some q)
theorem turn_bothK {P : Addr} {s1 s2 : Shared} {H1 : Hp} {ln : Bool} {N i : Nat} {scope : Scope} {ifs : List Expr} {elt : Expr} {pz : Nat → Bool} {qf : Nat → Option PyData} {m : Str → Option Value} {cenv : Env} {A' : Around} {ps more : Array Value}
    (T : TurnK X pins σ s1 H1 P ln N scope ifs elt pz qf i m) (hk : ∀ b o, b ≠ P → s1.heap.get? b = some o → s2.heap.get? b = some o) (hln : ln = true → scope.names.lookup ("len" : Str) = some .globalImplicit ∧ X.mg "len" = none) (S : GenT X.env scope) (hsc : cenv.scope = scope) (hcl : cenv.cells = cloFrom X.env.cells scope.names []) (hcg : cenv.globals = X.env.globals) (hcb : cenv.builtins = builtinsNs)
    (hn : s2.heap.Ns cenv.locals m) (J : Inv X pins σ (upd H1 P (.tbl (ps ++ more))) { s1 with heap := s2.heap, gens := s1.gens, drawn := s1.drawn, toks := s2.toks }) (ht3 : TriplesOk (ps ++ more).toList) (hA : A'.handled = none) (hu : A'.units + 80 < cLine) :
    (∀ E', wpAny (model X.prog X.w) A' (forIn ifs true fun c r => if r = true then do let ok ← isTrue c cenv (eval c cenv); pure (ForInStep.yield ok) else pure (ForInStep.yield r)) (fun ok s₃ => ok = pz i ∧ Keeps s2 s₃) E' s2) ∧
    (pz i = true → ∀ E', wpAny (model X.prog X.w) A' (eval elt cenv) (fun y s₃ => (∃ q, qf i = some q ∧ ValIs q y) ∧ Keeps s2 s₃) E' s2) := by
  obtain ⟨env, hcap, ht, he⟩ := T _ _ ⟨⟨ps ++ more, upd_same, ht3⟩, fun b hb => upd_ne hb⟩ J hk
  have hglob : ∀ s', Keeps s2 s' → s'.heap.Ns cenv.globals X.mg := fun s' k' => by
    obtain ⟨h1, t1, rfl, k1⟩ := k'
    rw [hcg, J.ok.glob]
    exact (J.mod.glob.keeps J.bk).keeps k1
  have nm : NmK X.prog X.w cenv env s2 ∧ (ln = true → LnK X.prog X.w cenv s2) := by
    refine ⟨nm_gen S hsc hcl hn hglob hcap, fun hl => ?_⟩
    obtain ⟨l1, l2⟩ := hln hl
    obtain ⟨mb, b1, b2⟩ := J.mod.blt
    exact ln_gen (mb := mb) S hsc l1 l2 hglob (by rw [hcb]; exact b1.keeps J.bk) (b2 "len" (by decide))
  refine ⟨fun E' => gTest_ok ht hA hu nm, fun hp E' => ?_⟩
  obtain ⟨q, eq, hq, eg⟩ := he hp
  exact gD_ok N elt q eg s2 A' E' _ hA hu nm fun y s₃ ry k3 => ⟨⟨q, eq, valIs_of ry hq⟩, k3⟩
/-- a name and a tuple of names: the generator is ready -/
theorem gen_nest {c P : Addr} {elt iter : Expr} {xa : Str} {xs : List (Str × Pos)} {pa p2 pt gpos : Pos} {kt kt2 : Nat} {scope : Scope} {ifs : List Expr} {k N : Nat} {Q' : Value → Shared → Prop} {ln : Bool} (hln : ln = true → scope.names.lookup ("len" : Str) = some .globalImplicit ∧ X.mg "len" = none)
    (hr : Room k X.A) (hu : X.A.units + 90 < cLine) (TB : GxR.TabB X.base X.mg c P) (hcode : X.env.code = .ref c) (S : GenT X.env scope) (hxa : scope.names.lookup xa = some .local) (hxs : ∀ x ∈ xs, scope.names.lookup x.1 = some .local)
    (h : wpAny (model X.prog X.w) X.A (eval iter X.env) (fun xv s₁ => wpAny (model X.prog X.w) X.A (pyIter xv) (fun it s₂ => ∃ (s1 : Shared) (H1 : Hp) (h2 : Heap) (tk2 : Nat) (Ia : Addr) (fp wr : List Addr) (n : Nat) (Pt : Nat → Array Value → Prop) (St₀ : Nat → Heap → Prop) (Mid : Nat → Addr → Heap → Prop) (pz : Nat → Bool) (qf : Nat → Option PyData) (qs : List PyData),
      it = .ref Ia ∧ s₂ = { s1 with heap := h2, toks := tk2 } ∧ GIt X pins σ P s1 H1 h2 fp wr St₀ ∧ (∀ A' : Around, A'.handled = none → WalksU X.prog X.w A' Ia fp wr n Pt St₀ Mid) ∧ (∀ i vals, Pt i vals → ∃ va b items, vals = #[va, .ref b] ∧ b ≠ P ∧ s1.heap.IsTuple b items ∧ items.size = xs.length) ∧ ResIs pz n qf qs ∧
      (∀ i va b items m, Pt i #[va, .ref b] → s1.heap.IsTuple b items → (∀ y k, nameAt ((xs.map (·.1)).reverse ++ [xa]) y = some k → m y = (items.toList.reverse ++ [va])[k]?) → TurnK X pins σ s1 H1 P ln N scope ifs elt pz qf i m) ∧ (∀ g s5, ReadyD X pins σ H1 P qs g s5 → Q' (.ref g) s5)) X.xe s₁) X.xe s)
    (hs : ∀ v, genFold iter X.env v = pure v) :
    wpAny (model X.prog X.w) X.A (eval (.GeneratorExp elt [⟨.Tuple [.Name xa pa, .Tuple (xs.map nmE) kt2 p2] kt pt, iter, ifs, 0⟩] scope gpos) X.env) Q' X.xe s := by
  refine genExpG (ts := [.Name xa pa, .Tuple (xs.map nmE) kt2 p2]) hr.hd S.co (closure_ok S.free) S.cell S.dot S.kind (by have := hr.dp; omega) (fun _ => rfl) (wpAny_mono h (fun xv s₁ h₁ => wpAny_mono h₁ (fun it s₂ h₂ => ?_) fun _ _ e => e) fun _ _ e => e) hs
  obtain ⟨s1, H1, h2, tk2, Ia, fp, wr, n, Pt, St₀, Mid, pz, qf, qs, rfl, rfl, ⟨I1, ⟨ps, hP, ht⟩, hk2, hlt, hst, hfp, hwr⟩, W, htw, hres, hel, hQ⟩ := h₂
  refine ⟨I1.nolimit.keeps hk2, gen_code (c := c) (P := P) hr TB hcode I1 hk2 hP ht fun code bi h3 tk more hxt hsz hP3 ht3 hl3 glob3 hbi => ?_⟩
  have hcl : cStatics < s1.heap.objs.size := let ⟨_, hns, _⟩ := I1.nolimit; hns.lt
  have nwr : ∀ b u, s1.heap.get? b = some u → b ∉ wr := fun b u e hb => Nat.lt_irrefl _ (Nat.lt_of_lt_of_le (Heap.lt_size e) (hwr b hb))
  have kept : ∀ {href : Heap} {s2 : Heap}, (∀ b o, h3.get? b = some o → href.get? b = some o) → (∀ b ∈ List.range h3.objs.size, b ∉ wr → ∀ o, href.get? b = some o → s2.get? b = some o) → ∀ b o, b ≠ P → s1.heap.get? b = some o → s2.get? b = some o := fun {href s2} hh hk b o nb e =>
    hk b (List.mem_range.mpr (Nat.lt_of_lt_of_le (Heap.lt_size e) (Nat.le_trans hlt hsz))) (nwr b o e) o (hh b o (hxt b o nb (hk2 b o e)))
  refine ⟨Ia, fp, wr, n, Pt, St₀, Mid, pz, fun i y => ∃ q, qf i = some q ∧ ValIs q y, fun i m => ∃ va b items, Pt i #[va, .ref b] ∧ s1.heap.IsTuple b items ∧ ∀ y k, nameAt ((xs.map (·.1)).reverse ++ [xa]) y = some k → m y = (items.toList.reverse ++ [va])[k]?, rfl, W, fun cenv i vs hv => ?_, hst h3 hxt, fun b hb => Nat.lt_of_lt_of_le (hfp b hb) hsz, hl3, fun z => absurd (hwr _ z) (Nat.not_le.mpr hcl), ?_, ?_⟩
  · obtain ⟨va, b, items, rfl, _⟩ := htw i vs hv
    rfl
  · intro href hhref
    refine ⟨fun B E' i vs s₂ m₂ Q hB hPv hn hk hq => ?_, fun B E' i s₂ m₂ hA _ hU hM hn hk => ?_, fun B E' i s₂ m₂ hA _ hU hM hp hn hk => ?_⟩
    · obtain ⟨va, b, items, rfl, nb, it1, isz⟩ := htw i vs hPv
      obtain ⟨o, eo, ro⟩ := it1
      have hlb : b ≠ (genEnv scope (cloFrom X.env.cells scope.names []) h3.objs.size code bi X.env).locals := by
        have := Heap.lt_size eo
        show b ≠ h3.objs.size
        intro z
        rw [z] at this
        exact Nat.lt_irrefl _ (Nat.lt_of_lt_of_le this (Nat.le_trans hlt hsz))
      exact stores_nest hB (by simp [genEnv, S.kind]) hxa hxs isz.symm ⟨o, kept hhref hk b o nb eo, ro⟩ hlb hn fun h' t m' hn' hm' k' => hq h' t m' hn' ⟨va, b, items, hPv, ⟨o, eo, ro⟩, hm'⟩ k'
    · obtain ⟨va, b, items, hPv, it1, hm⟩ := hM
      exact (turn_bothK (cenv := genEnv scope (cloFrom X.env.cells scope.names []) h3.objs.size code bi X.env) (hel i va b items m₂ hPv it1 hm) (kept hhref hk) hln S rfl rfl rfl hbi hn (inv_turn I1 hk2 hP hxt hsz hP3 hwr (Nat.le_trans hlt hsz) hhref hk) ht3 hA (by omega)).1 E'
    · obtain ⟨va, b, items, hPv, it1, hm⟩ := hM
      exact (turn_bothK (cenv := genEnv scope (cloFrom X.env.cells scope.names []) h3.objs.size code bi X.env) (hel i va b items m₂ hPv it1 hm) (kept hhref hk) hln S rfl rfl rfl hbi hn (inv_turn I1 hk2 hP hxt hsz hP3 hwr (Nat.le_trans hlt hsz) hhref hk) ht3 hA (by omega)).2 hp E'
  · intro g h5 tk5 gs hgb hag hsz5 hk5 W5 hgat
    rw [hres.1] at W5
    refine hQ g _ ⟨_, _, _, _, _, W5.in4_2, W5.in4_1, hgat, ?_, List.mem_cons_self, fun i s9 h9 => ?_, ?_, fun s' hm => ?_⟩
    · intro b hb
      show b < h5.objs.size
      have e5 : h5.objs.size = g + 1 := hsz5
      have h8 : h3.objs.size < g := hag
      rw [e5]
      rcases List.mem_cons.mp hb with z | z
      · rw [z]
        exact Nat.lt_succ_self g
      · rcases List.mem_cons.mp z with z | z
        · rw [z]
          exact Nat.lt_succ_of_lt h8
        · have z2 := List.mem_range.mp z
          have h7 : b < h3.objs.size := z2
          exact Nat.lt_succ_of_lt (Nat.lt_trans h7 h8)
    · obtain ⟨hg9, _⟩ := h9
      exact hg9.typeIs
    · intro j v hv
      obtain ⟨i, hij, q, hq, e⟩ := hv
      exact ⟨q, (hres.2 j i hij).symm.trans hq, e⟩
    · exact inv_end (C := h3.objs.size) I1 hk2 hP hxt hP3 ht3 hwr (Nat.le_trans hlt hsz) hk5 hgb hm
end
end Bk

/-! BkWorld: how plain data lies in the heap; what a run may change. -/
namespace Bk
open PySem PySem.Spec PyProof.Rows L2

abbrev Al := List (List Addr)

/-! ### places -/
theorem gt_cons {β : Type} (top : List β) (rest : List (List β)) (l k : Nat) : gt (top :: rest) l k = if l = rest.length then top[k]? else gt rest l k := rfl
theorem gt_lt {β : Type} : ∀ {h : List (List β)} {l k : Nat} {o : β}, gt h l k = some o → l < h.length
  | [], _, _, _, e => by simp [gt] at e
  | top :: rest, l, k, o, e => by
    rw [gt_cons] at e
    by_cases hl : l = rest.length
    · simp [hl]
    · rw [if_neg hl] at e
      have := gt_lt e
      simp; omega
theorem gt_old {β : Type} {top : List β} {rest : List (List β)} {l k : Nat} {o : β} (e : gt rest l k = some o) : gt (top :: rest) l k = some o := by
  rw [gt_cons, if_neg (Nat.ne_of_lt (gt_lt e)), e]
theorem gt_of_lt {β : Type} {top : List β} {rest : List (List β)} {l k : Nat} (h : l < rest.length) : gt (top :: rest) l k = gt rest l k := by
  rw [gt_cons, if_neg (Nat.ne_of_lt h)]
theorem gt_top {β : Type} {top : List β} {rest : List (List β)} {k : Nat} : gt (top :: rest) rest.length k = top[k]? := by rw [gt_cons, if_pos rfl]
theorem pt_len {β : Type} : ∀ (h : List (List β)) (l k : Nat) (o : β), (pt h l k o).length = h.length
  | [], _, _, _ => rfl
  | top :: rest, l, k, o => by
    unfold pt
    split
    · simp
    · simp [pt_len rest l k o]
theorem pt_shape {β : Type} : ∀ (h : List (List β)) (l k : Nat) (o : β), (pt h l k o).map List.length = h.map List.length
  | [], _, _, _ => rfl
  | top :: rest, l, k, o => by
    unfold pt
    split
    · simp
    · simp [pt_shape rest l k o]
theorem gt_pt {β : Type} : ∀ {h : List (List β)} {l k : Nat} {o o' : β}, gt h l k = some o → ∀ l' k', gt (pt h l k o') l' k' = if l' = l ∧ k' = k then some o' else gt h l' k'
  | [], _, _, _, _, e, _, _ => by simp [gt] at e
  | top :: rest, l, k, o, o', e, l', k' => by
    rw [gt_cons] at e
    unfold pt
    by_cases hl : l = rest.length
    · rw [if_pos hl] at e
      rw [if_pos hl, gt_cons, gt_cons]
      by_cases hl' : l' = rest.length
      · rw [if_pos hl', if_pos hl']
        by_cases hk : k' = k
        · subst hk
          rw [if_pos ⟨by omega, rfl⟩, List.getElem?_set_self (List.getElem?_eq_some_iff.mp e).1]
        · rw [if_neg (fun z => hk z.2), List.getElem?_set_ne (Ne.symm hk)]
      · rw [if_neg hl', if_neg hl', if_neg (fun z => hl' (z.1.trans hl))]
    · rw [if_neg hl] at e
      rw [if_neg hl, gt_cons, gt_cons, pt_len]
      by_cases hl' : l' = rest.length
      · rw [if_pos hl', if_pos hl', if_neg (fun z => hl (z.1.symm.trans hl'))]
      · rw [if_neg hl', if_neg hl', gt_pt e]

theorem gt_some_shape {β γ : Type} : ∀ {a : List (List β)} {h : List (List γ)}, a.map List.length = h.map List.length → ∀ {l k : Nat} {o : γ}, gt h l k = some o → ∃ x, gt a l k = some x
  | [], [], _, _, _, _, e => by simp [gt] at e
  | [], _ :: _, s, _, _, _, _ => by simp at s
  | _ :: _, [], s, _, _, _, _ => by simp at s
  | at_ :: ar, top :: rest, s, l, k, o, e => by
    simp only [List.map_cons, List.cons.injEq] at s
    rw [gt_cons] at e
    have hr : ar.length = rest.length := by simpa using congrArg List.length s.2
    rw [gt_cons]
    by_cases hl : l = rest.length
    · rw [if_pos hl] at e
      rw [if_pos (hl.trans hr.symm)]
      have := (List.getElem?_eq_some_iff.mp e).1
      exact ⟨_, List.getElem?_eq_getElem (by omega)⟩
    · rw [if_neg hl] at e
      rw [if_neg (fun z => hl (z.trans hr))]
      exact gt_some_shape s.2 e

mutual
theorem D.okMono {m n : Nat} (h : m ≤ n) : ∀ {d : D}, d.ok m = true → d.ok n = true
  | .non, _ => rfl
  | .bl _, _ => rfl
  | .int _, _ => rfl
  | .str _, _ => rfl
  | .ty _, _ => rfl
  | .scr _, _ => rfl
  | .tup xs, k => by
    simp only [D.ok] at k ⊢
    exact D.oksMono h k
  | .lst xs, k => by
    simp only [D.ok] at k ⊢
    exact D.oksMono h k
  | .loc l j, k => by
    simp only [D.ok, decide_eq_true_eq] at k ⊢
    omega
theorem D.oksMono {m n : Nat} (h : m ≤ n) : ∀ {d : List D}, D.oks m d = true → D.oks n d = true
  | [], _ => rfl
  | x :: xs, k => by
    simp only [D.oks, Bool.and_eq_true] at k ⊢
    exact ⟨D.okMono h k.1, D.oksMono h k.2⟩
end
theorem Ob.okMono {m n : Nat} (h : m ≤ n) : ∀ {o : Ob}, o.ok m = true → o.ok n = true
  | .dead, _ => rfl
  | .lst xs, k => D.oksMono (d := xs) h k
  | .dk kvs, k => by
    show D.oks n (kvs.map fun p => p.2) = true
    exact D.oksMono h (show D.oks m (kvs.map fun p => p.2) = true from k)
  | .dt kvs, k => by
    show D.oks n (kvs.map fun p => p.2) = true
    exact D.oksMono h (show D.oks m (kvs.map fun p => p.2) = true from k)

/-! ### data in the heap -/
mutual
inductive RD (K : PySem.W.Frag) (α : Al) (F : Hp) : D → V → Prop
  | non : RD K α F .non .non
  | bl (b : Bool) : RD K α F (.bl b) (.bl b)
  | int (i : Int) : RD K α F (.int i) (.int i)
  | str (x : Str) : RD K α F (.str x) (.str x)
  | ty (n : String) : RD K α F (.ty n) (.ty n)
  | tup {a : Addr} {ds : List D} {vs : List V} : SqT K F a vs → RDs K α F ds vs → RD K α F (.tup ds) (.ref a)
  | lst {a : Addr} {ds : List D} {vs : List V} : F a = some (.lst vs) → RDs K α F ds vs → RD K α F (.lst ds) (.ref a)
  | scr {a : Addr} {ns : List Int} : SqL K F a (ns.map V.int) → RD K α F (.scr ns) (.ref a)
  | loc {a : Addr} {l k : Nat} : gt α l k = some a → RD K α F (.loc l k) (.ref a)
inductive RDs (K : PySem.W.Frag) (α : Al) (F : Hp) : List D → List V → Prop
  | nil : RDs K α F [] []
  | cons {d : D} {v : V} {ds : List D} {vs : List V} : RD K α F d v → RDs K α F ds vs → RDs K α F (d :: ds) (v :: vs)
end
theorem Same.seqT {K : PySem.W.Frag} {H H' : Hp} {a : Addr} {xs : List V} (e : Same H H') (h : SqT K H a xs) : SqT K H' a xs := by
  rcases h with (h | ⟨o, h⟩) | h
  · exact .inl (.inl (e _ _ h))
  · exact .inl (.inr ⟨o, e _ _ h⟩)
  · exact .inr h
section
variable {K : PySem.W.Frag} {α α' : Al} {F F' : Hp}
mutual
theorem RD.mono (hl : ∀ l k a, gt α l k = some a → gt α' l k = some a) (hF : Same F F') : ∀ {d : D} {v : V}, RD K α F d v → RD K α' F' d v
  | _, _, .non => .non
  | _, _, .bl b => .bl b
  | _, _, .int i => .int i
  | _, _, .str x => .str x
  | _, _, .ty n => .ty n
  | _, _, .tup h r => .tup (Same.seqT hF h) (RDs.mono hl hF r)
  | _, _, .lst h r => .lst (hF _ _ h) (RDs.mono hl hF r)
  | _, _, .scr h => .scr (hF.seq h)
  | _, _, .loc h => .loc (hl _ _ _ h)
theorem RDs.mono (hl : ∀ l k a, gt α l k = some a → gt α' l k = some a) (hF : Same F F') : ∀ {ds : List D} {vs : List V}, RDs K α F ds vs → RDs K α' F' ds vs
  | _, _, .nil => .nil
  | _, _, .cons h r => .cons (RD.mono hl hF h) (RDs.mono hl hF r)
end
/-! a region above is left out -/
mutual
theorem RD.pop {r : List Addr} : ∀ {d : D} {v : V}, RD K (r :: α) F d v → d.ok α.length = true → RD K α F d v
  | _, _, .non, _ => .non
  | _, _, .bl b, _ => .bl b
  | _, _, .int i, _ => .int i
  | _, _, .str x, _ => .str x
  | _, _, .ty n, _ => .ty n
  | _, _, .tup h q, k => .tup h (RDs.pop q (by simpa [D.ok] using k))
  | _, _, .lst h q, k => .lst h (RDs.pop q (by simpa [D.ok] using k))
  | _, _, .scr h, _ => .scr h
  | _, _, .loc h, k => .loc (by
    have k' := of_decide_eq_true k
    rw [gt_of_lt k'] at h
    exact h)
theorem RDs.pop {r : List Addr} : ∀ {ds : List D} {vs : List V}, RDs K (r :: α) F ds vs → D.oks α.length ds = true → RDs K α F ds vs
  | _, _, .nil, _ => .nil
  | _, _, .cons h q, k => by
    simp only [D.oks, Bool.and_eq_true] at k
    exact .cons (RD.pop h k.1) (RDs.pop q k.2)
end
theorem RDs.length : ∀ {ds : List D} {vs : List V}, RDs K α F ds vs → ds.length = vs.length
  | _, _, .nil => rfl
  | _, _, .cons _ r => by simp [RDs.length r]
theorem RDs.get : ∀ {ds : List D} {vs : List V} {i : Nat} {d : D}, RDs K α F ds vs → ds[i]? = some d → ∃ v, vs[i]? = some v ∧ RD K α F d v
  | _, _, _, _, .nil, e => by simp at e
  | _, _, 0, _, .cons h _, e => by simp at e; subst e; exact ⟨_, rfl, h⟩
  | _, _, i + 1, d, .cons _ r, e => by
    obtain ⟨v, h1, h2⟩ := RDs.get (i := i) (d := d) r (by simpa using e)
    exact ⟨v, by simpa using h1, h2⟩
theorem RDs.get' : ∀ {ds : List D} {vs : List V} {i : Nat} {v : V}, RDs K α F ds vs → vs[i]? = some v → ∃ d, ds[i]? = some d ∧ RD K α F d v
  | _, _, _, _, .nil, e => by simp at e
  | _, _, 0, _, .cons h _, e => by simp at e; subst e; exact ⟨_, rfl, h⟩
  | _, _, i + 1, d, .cons _ r, e => by
    obtain ⟨v, h1, h2⟩ := RDs.get' (i := i) (v := d) r (by simpa using e)
    exact ⟨v, by simpa using h1, h2⟩
theorem RDs.append : ∀ {ds es : List D} {vs ws : List V}, RDs K α F ds vs → RDs K α F es ws → RDs K α F (ds ++ es) (vs ++ ws)
  | _, _, _, _, .nil, q => q
  | _, _, _, _, .cons h r, q => .cons h (RDs.append r q)
theorem RDs.take : ∀ {ds : List D} {vs : List V} (n : Nat), RDs K α F ds vs → RDs K α F (ds.take n) (vs.take n)
  | _, _, 0, _ => .nil
  | _, _, _ + 1, .nil => .nil
  | _, _, n + 1, .cons h r => .cons h (RDs.take n r)
theorem RDs.drop : ∀ {ds : List D} {vs : List V} (n : Nat), RDs K α F ds vs → RDs K α F (ds.drop n) (vs.drop n)
  | _, _, 0, r => r
  | _, _, _ + 1, .nil => .nil
  | _, _, n + 1, .cons _ r => RDs.drop n r
theorem RDs.set {d : D} {v : V} (x : RD K α F d v) : ∀ {ds : List D} {vs : List V} (i : Nat), RDs K α F ds vs → RDs K α F (ds.set i d) (vs.set i v)
  | _, _, _, .nil => .nil
  | _, _, 0, .cons _ r => .cons x r
  | _, _, i + 1, .cons h r => .cons h (RDs.set x i r)
theorem RDs.erase : ∀ {ds : List D} {vs : List V} (i : Nat), RDs K α F ds vs → RDs K α F (ds.eraseIdx i) (vs.eraseIdx i)
  | _, _, _, .nil => .nil
  | _, _, 0, .cons _ r => r
  | _, _, i + 1, .cons h r => .cons h (RDs.erase i r)
theorem RDs.dropLast : ∀ {ds : List D} {vs : List V}, RDs K α F ds vs → RDs K α F ds.dropLast vs.dropLast
  | _, _, .nil => .nil
  | _, _, .cons _ .nil => .nil
  | _, _, .cons h (.cons h' r) => .cons h (RDs.dropLast (.cons h' r))
theorem RDs.reverse {ds : List D} {vs : List V} (r : RDs K α F ds vs) : RDs K α F ds.reverse vs.reverse := by
  induction ds generalizing vs with
  | nil => cases r; exact .nil
  | cons d ds ih =>
    cases r with
    | cons h r =>
      rw [List.reverse_cons, List.reverse_cons]
      exact (ih r).append (.cons h .nil)
theorem RDs.rep {ds : List D} {vs : List V} (r : RDs K α F ds vs) : ∀ n : Nat, RDs K α F (List.replicate n ds).flatten (List.replicate n vs).flatten
  | 0 => .nil
  | n + 1 => by
    rw [List.replicate_succ, List.replicate_succ, List.flatten_cons, List.flatten_cons]
    exact r.append (RDs.rep r n)
theorem RDs.ints : ∀ ns : List Int, RDs K α F (ns.map .int) (ns.map .int)
  | [] => .nil
  | n :: r => .cons (.int n) (RDs.ints r)
theorem RDs.bls : ∀ ns : List Bool, RDs K α F (ns.map .bl) (ns.map .bl)
  | [] => .nil
  | n :: r => .cons (.bl n) (RDs.bls r)
end

mutual
theorem RD.okLen {K : PySem.W.Frag} {α : Al} {F : Hp} : ∀ {d : D} {v : V}, RD K α F d v → d.ok α.length = true
  | _, _, .non => rfl
  | _, _, .bl b => rfl
  | _, _, .int i => rfl
  | _, _, .str x => rfl
  | _, _, .ty n => rfl
  | _, _, .tup h r => by
    simp only [D.ok]
    exact RDs.okLen r
  | _, _, .lst h r => by
    simp only [D.ok]
    exact RDs.okLen r
  | _, _, .scr h => rfl
  | _, _, .loc h => by
    simp only [D.ok, decide_eq_true_eq]
    exact gt_lt h
theorem RDs.okLen {K : PySem.W.Frag} {α : Al} {F : Hp} : ∀ {ds : List D} {vs : List V}, RDs K α F ds vs → D.oks α.length ds = true
  | _, _, .nil => rfl
  | _, _, .cons h r => by
    simp only [D.oks, Bool.and_eq_true]
    exact ⟨RD.okLen h, RDs.okLen r⟩
end
/-- a dict's keys and values -/
abbrev DVs (K : PySem.W.Frag) (α : Al) (F : Hp) : List (Key × D) → List (Key × V) → Prop := Paired fun p q => p.1 = q.1 ∧ RD K α F p.2 q.2
abbrev DTs (K : PySem.W.Frag) (α : Al) (F : Hp) : List (List Int × D) → List EI → Prop := Paired fun p q => p.1 = q.1 ∧ SqT K F q.2.1 (p.1.map V.int) ∧ ∃ v, RD K α F p.2 v ∧ RelV v q.2.2
inductive RO (K : PySem.W.Frag) (α : Al) (F : Hp) (a : Addr) : Ob → HO → Prop
  | lst {ds : List D} {vs : List V} : RDs K α F ds vs → RO K α F a (.lst ds) (.lst vs)
  | dk {kvs : List (Key × D)} {ws : List (Key × V)} : DVs K α F kvs ws → RO K α F a (.dk kvs) (.dK ws)
  | dt {kvs : List (List Int × D)} {xs : List EI} : DTs K α F kvs xs → RO K α F a (.dt kvs) (DtO a xs)
theorem RO.mono {K : PySem.W.Frag} {α α' : Al} {F F' : Hp} {a : Addr} (hl : ∀ l k a, gt α l k = some a → gt α' l k = some a) (hF : Same F F') {o : Ob} {u : HO} (r : RO K α F a o u) : RO K α' F' a o u := by
  cases r with
  | lst r => exact .lst (r.mono hl hF)
  | dk r => exact .dk (L2.Paired.mapP r fun p q z => ⟨z.1, z.2.mono hl hF⟩)
  | dt r => exact .dt (L2.Paired.mapP r fun p q ⟨z1, z2, v, z3, z4⟩ => ⟨z1, Same.seqT hF z2, v, z3.mono hl hF, z4⟩)
theorem paired_pop {A B : Type} {R R' : A → B → Prop} (f : A → D) {n : Nat} (h : ∀ x y, R x y → (f x).ok n = true → R' x y) : ∀ {xs : List A} {ys : List B}, Paired R xs ys → D.oks n (xs.map f) = true → Paired R' xs ys
  | _, _, .nil, _ => .nil
  | _, _, .cons r t, k => by
    rw [List.map_cons] at k
    simp only [D.oks, Bool.and_eq_true] at k
    exact .cons (h _ _ r k.1) (paired_pop f h t k.2)
theorem RO.pop {K : PySem.W.Frag} {α : Al} {F : Hp} {r : List Addr} {a : Addr} {o : Ob} {u : HO} (q : RO K (r :: α) F a o u) (k : o.ok α.length = true) : RO K α F a o u := by
  cases q with
  | lst q => exact .lst (q.pop k)
  | dk q => exact .dk (paired_pop (fun p : Key × D => p.2) (fun p q z w => ⟨z.1, z.2.pop w⟩) q (show D.oks α.length _ = true from k))
  | dt q => exact .dt (paired_pop (fun p : List Int × D => p.2) (fun p q ⟨z1, z2, v, z3, z4⟩ w => ⟨z1, z2, v, z3.pop w, z4⟩) q (show D.oks α.length _ = true from k))

/-- F: what nobody changes any more; the places of h lie at α in H -/
structure Wd (τ : List Addr) (K : PySem.W.Frag) (α : Al) (F H : Hp) (h : Hs) : Prop where
  shape : α.map List.length = h.map List.length
  sub : Same F H
  live : ∀ l k o, gt h l k = some o → o ≠ .dead → ∃ a u, gt α l k = some a ∧ F a = none ∧ H a = some u ∧ RO K α F a o u
  inj : ∀ l k l' k' a, gt α l k = some a → gt α l' k' = some a → l = l' ∧ k = k'
  there : ∀ l k a, gt α l k = some a → H a ≠ none
  lv : ∀ l k o, gt h l k = some o → o.ok (l + 1) = true
  tabs : ∀ p ∈ τ, GxR.TabG H p ∧ F p = none ∧ ∀ l k, gt α l k ≠ some p
/-- what a tracked thing may become: a table may grow -/
def Kp (o o' : HO) : Prop := o' = o ∨ ((∃ ps, o = .tbl ps) ∧ ∃ ps, o' = .tbl ps)
theorem Kp.trans {a b c : HO} (x : Kp a b) (y : Kp b c) : Kp a c := by
  rcases x with rfl | ⟨⟨p, rfl⟩, q, rfl⟩
  · exact y
  · rcases y with rfl | ⟨_, r, rfl⟩
    · exact .inr ⟨⟨p, rfl⟩, q, rfl⟩
    · exact .inr ⟨⟨p, rfl⟩, r, rfl⟩
theorem Kp.same {o o' : HO} (x : Kp o o') (h : ∀ ps, o ≠ .tbl ps) : o' = o := by
  rcases x with rfl | ⟨⟨p, rfl⟩, _⟩
  · rfl
  · exact absurd rfl (h p)

structure Ext (α : Al) (F H : Hp) (α' : Al) (F' H' : Hp) : Prop where
  len : α'.length = α.length
  look : ∀ l k a, gt α l k = some a → gt α' l k = some a
  sub : Same F F'
  stay : ∀ a o, H a = some o → (∀ l k, gt α l k ≠ some a) → (∃ o', H' a = some o' ∧ Kp o o') ∧ ∀ l k, gt α' l k ≠ some a
  fnew : ∀ a o, H a = some o → (∀ l k, gt α l k ≠ some a) → F a = none → F' a = none

section
variable {K : PySem.W.Frag} {α α' α'' : Al} {F F' F'' H H' H'' : Hp} {h h' : Hs}
theorem Ext.refl : Ext α F H α F H := ⟨rfl, fun _ _ _ e => e, Same.refl _, fun _ o e n => ⟨⟨o, e, .inl rfl⟩, n⟩, fun _ _ _ _ e => e⟩
theorem Ext.stayO (x : Ext α F H α' F' H') {a : Addr} {o : HO} (e : H a = some o) (n : ∀ l k, gt α l k ≠ some a) (h : ∀ ps, o ≠ .tbl ps := by nofun) : H' a = some o ∧ ∀ l k, gt α' l k ≠ some a := by
  obtain ⟨⟨o', e1, k1⟩, n1⟩ := x.stay a o e n
  rw [k1.same h] at e1
  exact ⟨e1, n1⟩
theorem Ext.trans (a : Ext α F H α' F' H') (b : Ext α' F' H' α'' F'' H'') : Ext α F H α'' F'' H'' :=
  ⟨b.len.trans a.len, fun l k x e => b.look l k x (a.look l k x e), a.sub.trans b.sub, fun x o e n => let ⟨⟨o1, e1, k1⟩, n1⟩ := a.stay x o e n; let ⟨⟨o2, e2, k2⟩, n2⟩ := b.stay x o1 e1 n1; ⟨⟨o2, e2, k1.trans k2⟩, n2⟩, fun x o e n f => let ⟨⟨o1, e1, _⟩, n1⟩ := a.stay x o e n; b.fnew x o1 e1 n1 (a.fnew x o e n f)⟩
theorem Ext.rd (x : Ext α F H α' F' H') {d : D} {v : V} (r : RD K α F d v) : RD K α' F' d v := r.mono x.look x.sub
theorem Ext.rds (x : Ext α F H α' F' H') {d : List D} {v : List V} (r : RDs K α F d v) : RDs K α' F' d v := r.mono x.look x.sub
theorem Wd.len (w : Wd τ K α F H h) : α.length = h.length := by simpa using congrArg List.length w.shape
/-- something new is there, of which nobody knows yet -/
theorem Wd.fresh (w : Wd τ K α F H h) {p : Addr} (hp : H p = none) (u : HO) : Wd τ K α F (upd H p u) h ∧ Ext α F H α F (upd H p u) ∧ F p = none ∧ (∀ l k, gt α l k ≠ some p) := by
  have hF : F p = none := w.sub.free hp
  have sH : Same H (upd H p u) := fun b o e => by rw [upd_ne (ne_of_none e hp)]; exact e
  have ne : ∀ l k a, gt α l k = some a → a ≠ p := fun l k a e z => w.there l k a e (by rw [z]; exact hp)
  refine ⟨⟨w.shape, fun b o e => sH _ _ (w.sub b o e), fun l k o e n => ?_, w.inj, fun l k a e => ?_, w.lv, fun q hq => let ⟨⟨ps, e1, e2⟩, f, n⟩ := w.tabs q hq; ⟨⟨ps, sH _ _ e1, e2⟩, f, n⟩⟩, ⟨rfl, fun _ _ _ e => e, Same.refl _, fun a o e n => ⟨⟨o, sH a o e, .inl rfl⟩, n⟩, fun _ _ _ _ e => e⟩, hF, fun l k z => ne l k p z rfl⟩
  · obtain ⟨a, v, e1, e2, e3, r⟩ := w.live l k o e n
    exact ⟨a, v, e1, e2, sH _ _ e3, r⟩
  · rw [upd_ne (ne l k a e)]; exact w.there l k a e
/-- .. is from now on one that nobody changes -/
theorem Wd.adoptF (w : Wd τ K α F H h) {p : Addr} {u : HO} (hp : H p = some u) (hF : F p = none) (hn : ∀ l k, gt α l k ≠ some p) (hu : ∀ ps, u ≠ .tbl ps := by nofun) : Wd τ K α (upd F p u) H h ∧ Same F (upd F p u) := by
  have sF : Same F (upd F p u) := fun b o e => by rw [upd_ne (ne_of_none e hF)]; exact e
  refine ⟨⟨w.shape, fun b o e => ?_, fun l k o e n => ?_, w.inj, w.there, w.lv, fun q hq => ?_⟩, sF⟩
  · by_cases hb : b = p
    · subst hb; rw [upd_same] at e; rw [← e]; exact hp
    · rw [upd_ne hb] at e; exact w.sub b o e
  · obtain ⟨a, v, e1, e2, e3, r⟩ := w.live l k o e n
    have na : a ≠ p := fun z => hn l k (by rw [← z]; exact e1)
    exact ⟨a, v, e1, by rw [upd_ne na]; exact e2, e3, r.mono (fun _ _ _ e => e) sF⟩
  · obtain ⟨⟨ps, e1, e2⟩, f, n⟩ := w.tabs q hq
    refine ⟨⟨ps, e1, e2⟩, ?_, n⟩
    rw [upd_ne (fun z => ?_)]
    · exact f
    · rw [z, hp] at e1
      cases e1
      exact hu _ rfl
/-- .. is a changeable object of the youngest region -/
theorem Wd.adoptL {at_ : List Addr} {ar : Al} {top : List Ob} {rest : Hs} (w : Wd τ K (at_ :: ar) F H (top :: rest)) {p : Addr} {o : Ob} {u : HO} (hp : H p = some u) (hF : F p = none) (hn : ∀ l k, gt (at_ :: ar) l k ≠ some p)
    (r : RO K (at_ :: ar) F p o u) (hlv : o.ok (rest.length + 1) = true) :
    Wd τ K ((at_ ++ [p]) :: ar) F H ((top ++ [o]) :: rest) ∧ (∀ l k a, gt (at_ :: ar) l k = some a → gt ((at_ ++ [p]) :: ar) l k = some a) ∧ (∀ l k a, gt ((at_ ++ [p]) :: ar) l k = some a → gt (at_ :: ar) l k = some a ∨ a = p) ∧
      gt ((at_ ++ [p]) :: ar) rest.length top.length = some p := by
  have hs : at_.length = top.length ∧ ar.map List.length = rest.map List.length := by simpa using w.shape
  have hr : ar.length = rest.length := by simpa using congrArg List.length hs.2
  have look : ∀ l k a, gt (at_ :: ar) l k = some a → gt ((at_ ++ [p]) :: ar) l k = some a := fun l k a e => by
    rw [gt_cons] at e ⊢
    by_cases hl : l = ar.length
    · rw [if_pos hl] at e ⊢
      rw [List.getElem?_append_left (List.getElem?_eq_some_iff.mp e).1]; exact e
    · rw [if_neg hl] at e ⊢; exact e
  have inv : ∀ l k a, gt ((at_ ++ [p]) :: ar) l k = some a → gt (at_ :: ar) l k = some a ∨ (a = p ∧ l = ar.length ∧ k = at_.length) := fun l k a e => by
    rw [gt_cons] at e
    rw [gt_cons]
    by_cases hl : l = ar.length
    · rw [if_pos hl] at e ⊢
      by_cases hk : k < at_.length
      · rw [List.getElem?_append_left hk] at e; exact .inl e
      · rw [List.getElem?_append_right (by omega)] at e
        have : k - at_.length = 0 := by
          have := (List.getElem?_eq_some_iff.mp e).1
          simp at this; omega
        rw [this] at e
        simp at e
        exact .inr ⟨e.symm, hl, by omega⟩
    · rw [if_neg hl] at e ⊢; exact .inl e
  have new : gt ((at_ ++ [p]) :: ar) rest.length top.length = some p := by
    rw [gt_cons, if_pos hr.symm, ← hs.1]; simp
  refine ⟨⟨?_, w.sub, fun l k o' e n => ?_, fun l k l' k' a e1 e2 => ?_, fun l k a e => ?_, fun l k o' e => ?_, fun q hq => ?_⟩, look, fun l k a e => (inv l k a e).imp id fun z => z.1, new⟩
  · simp [hs.1, hs.2]
  · rw [gt_cons] at e
    by_cases hl : l = rest.length
    · rw [if_pos hl] at e
      by_cases hk : k < top.length
      · rw [List.getElem?_append_left hk] at e
        obtain ⟨a, v, e1, e2, e3, r1⟩ := w.live l k o' (by rw [gt_cons, if_pos hl]; exact e) n
        exact ⟨a, v, look _ _ _ e1, e2, e3, r1.mono look (Same.refl _)⟩
      · rw [List.getElem?_append_right (by omega)] at e
        have hk0 : k - top.length = 0 := by
          have := (List.getElem?_eq_some_iff.mp e).1
          simp at this; omega
        rw [hk0] at e
        simp at e
        subst e
        have : k = top.length := by omega
        subst hl; subst this
        exact ⟨p, u, new, hF, hp, r.mono look (Same.refl _)⟩
    · rw [if_neg hl] at e
      obtain ⟨a, v, e1, e2, e3, r1⟩ := w.live l k o' (by rw [gt_cons, if_neg hl]; exact e) n
      exact ⟨a, v, look _ _ _ e1, e2, e3, r1.mono look (Same.refl _)⟩
  · rcases inv _ _ _ e1 with q1 | ⟨q1, q2, q3⟩
    · rcases inv _ _ _ e2 with q4 | ⟨q4, _, _⟩
      · exact w.inj _ _ _ _ _ q1 q4
      · rw [q4] at q1; exact absurd q1 (hn _ _)
    · rcases inv _ _ _ e2 with q4 | ⟨q4, q5, q6⟩
      · rw [q1] at q4; exact absurd q4 (hn _ _)
      · exact ⟨q2.trans q5.symm, q3.trans q6.symm⟩
  · rcases inv _ _ _ e with q | ⟨q, _, _⟩
    · exact w.there _ _ _ q
    · rw [q, hp]; intro z; cases z
  · rw [gt_cons] at e
    by_cases hl : l = rest.length
    · rw [if_pos hl] at e
      by_cases hk : k < top.length
      · rw [List.getElem?_append_left hk] at e
        exact w.lv l k o' (by rw [gt_cons, if_pos hl]; exact e)
      · rw [List.getElem?_append_right (by omega)] at e
        have hk0 : k - top.length = 0 := by
          have := (List.getElem?_eq_some_iff.mp e).1
          simp at this; omega
        rw [hk0] at e
        simp at e
        subst e; subst hl; exact hlv
    · rw [if_neg hl] at e
      exact w.lv l k o' (by rw [gt_cons, if_neg hl]; exact e)
  · obtain ⟨⟨ps, e1, e2⟩, f, n⟩ := w.tabs q hq
    refine ⟨⟨ps, e1, e2⟩, f, fun l k z => ?_⟩
    rcases inv _ _ _ z with z | ⟨z, _, _⟩
    · exact n _ _ z
    · rw [z, hp] at e1
      cases r <;> cases e1
/-- a thing that is neither known for good nor a place's is written -/
theorem Wd.priv (w : Wd τ K α F H h) {p : Addr} (hF : F p = none) (hn : ∀ l k, gt α l k ≠ some p) (u : HO) (ht : ∀ ps, H p ≠ some (.tbl ps)) : Wd τ K α F (upd H p u) h := by
  have ne : ∀ l k a, gt α l k = some a → a ≠ p := fun l k a e z => hn l k (by rw [← z]; exact e)
  refine ⟨w.shape, fun b o e => ?_, fun l k o e n => ?_, w.inj, fun l k a e => ?_, w.lv, fun q hq => ?_⟩
  · rw [upd_ne (ne_of_none e hF)]; exact w.sub b o e
  · obtain ⟨a, v, e1, e2, e3, r⟩ := w.live l k o e n
    exact ⟨a, v, e1, e2, by rw [upd_ne (ne l k a e1)]; exact e3, r⟩
  · rw [upd_ne (ne l k a e)]; exact w.there l k a e
  · obtain ⟨⟨ps, e1, e2⟩, f, n⟩ := w.tabs q hq
    exact ⟨⟨ps, by rw [upd_ne (fun z => ht ps (by rw [← z]; exact e1))]; exact e1, e2⟩, f, n⟩
/-- a new thing that nobody changes -/
theorem Wd.newF (w : Wd τ K α F H h) {p : Addr} (hp : H p = none) (u : HO) (hu : ∀ ps, u ≠ .tbl ps := by nofun) : Wd τ K α (upd F p u) (upd H p u) h ∧ Ext α F H α (upd F p u) (upd H p u) ∧ (upd F p u) p = some u := by
  obtain ⟨w1, x1, hF, hn⟩ := w.fresh hp u
  obtain ⟨w2, s2⟩ := w1.adoptF upd_same hF hn hu
  refine ⟨w2, ⟨rfl, fun _ _ _ e => e, s2, x1.stay, fun a o e n f => ?_⟩, upd_same⟩
  rw [upd_ne (ne_of_none e hp)]; exact f
/-- a new changeable object in the youngest region -/
theorem Wd.newL {at_ : List Addr} {ar : Al} {top : List Ob} {rest : Hs} (w : Wd τ K (at_ :: ar) F H (top :: rest)) {p : Addr} (hp : H p = none) {o : Ob} {u : HO} (r : RO K (at_ :: ar) F p o u) (hlv : o.ok (rest.length + 1) = true) :
    Wd τ K ((at_ ++ [p]) :: ar) F (upd H p u) ((top ++ [o]) :: rest) ∧ Ext (at_ :: ar) F H ((at_ ++ [p]) :: ar) F (upd H p u) ∧ gt ((at_ ++ [p]) :: ar) rest.length top.length = some p := by
  obtain ⟨w1, x1, hF, hn⟩ := w.fresh hp u
  obtain ⟨w2, l2, i2, n2⟩ := w1.adoptL upd_same hF hn r hlv
  refine ⟨w2, ⟨rfl, l2, Same.refl _, fun a o e n => ⟨(x1.stay a o e n).1, fun l k z => ?_⟩, fun _ _ _ _ e => e⟩, n2⟩
  rcases i2 _ _ _ z with q | q
  · exact n _ _ q
  · rw [q, hp] at e; cases e
/-- a changeable object is written -/
theorem Wd.write (w : Wd τ K α F H h) {l k : Nat} {o o' : Ob} {a : Addr} {u : HO} (e : gt h l k = some o) (nd : o ≠ .dead) (ea : gt α l k = some a) (r : RO K α F a o' u) (hlv : o'.ok (l + 1) = true) :
    Wd τ K α F (upd H a u) (pt h l k o') ∧ Ext α F H α F (upd H a u) := by
  obtain ⟨a', v, e1, e2, e3, _⟩ := w.live l k o e nd
  rw [ea] at e1; cases e1
  have neF : ∀ b x, F b = some x → b ≠ a := fun b x q z => by rw [z, e2] at q; cases q
  refine ⟨⟨by rw [pt_shape]; exact w.shape, fun b x q => ?_, fun l' k' x q n => ?_, w.inj, fun l' k' b q => ?_, fun l' k' x q => ?_, fun q hq => ?_⟩, ⟨rfl, fun _ _ _ q => q, Same.refl _, fun b x q n => ⟨⟨x, ?_, .inl rfl⟩, n⟩, fun _ _ _ _ e => e⟩⟩
  · rw [upd_ne (neF b x q)]; exact w.sub b x q
  · rw [gt_pt e] at q
    by_cases hq : l' = l ∧ k' = k
    · rw [if_pos hq] at q; cases q
      rw [hq.1, hq.2]
      exact ⟨a, u, ea, e2, upd_same, r⟩
    · rw [if_neg hq] at q
      obtain ⟨b, y, f1, f2, f3, f4⟩ := w.live l' k' x q n
      have nb : b ≠ a := fun z => hq (by subst z; exact w.inj _ _ _ _ _ f1 ea)
      exact ⟨b, y, f1, f2, by rw [upd_ne nb]; exact f3, f4⟩
  · by_cases hb : b = a
    · rw [hb, upd_same]; intro z; cases z
    · rw [upd_ne hb]; exact w.there _ _ _ q
  · rw [gt_pt e] at q
    by_cases hq : l' = l ∧ k' = k
    · rw [if_pos hq] at q; cases q; rw [hq.1]; exact hlv
    · rw [if_neg hq] at q; exact w.lv _ _ _ q
  · obtain ⟨⟨ps, e1, e2⟩, f, n⟩ := w.tabs q hq
    exact ⟨⟨ps, by rw [upd_ne (fun z => n l k (by rw [z]; exact ea))]; exact e1, e2⟩, f, n⟩
  · rw [upd_ne (fun z => n l k (by rw [z]; exact ea))]; exact q
/-- a changeable list becomes one that nobody changes -/
theorem Wd.freeze (w : Wd τ K α F H h) {l k : Nat} {o : Ob} {a : Addr} {u : HO} (e : gt h l k = some o) (nd : o ≠ .dead) (ea : gt α l k = some a) (eu : H a = some u) :
    Wd τ K α (upd F a u) H (pt h l k .dead) ∧ Ext α F H α (upd F a u) H := by
  obtain ⟨a', v, e1, e2, e3, _⟩ := w.live l k o e nd
  rw [ea] at e1; cases e1
  have sF : Same F (upd F a u) := fun b x q => by rw [upd_ne (ne_of_none q e2)]; exact q
  refine ⟨⟨by rw [pt_shape]; exact w.shape, fun b x q => ?_, fun l' k' x q n => ?_, w.inj, w.there, fun l' k' x q => ?_, fun q hq => let ⟨t, f, n⟩ := w.tabs q hq; ⟨t, by rw [upd_ne (fun z => n l k (by rw [z]; exact ea))]; exact f, n⟩⟩, ⟨rfl, fun _ _ _ q => q, sF, fun b x q n => ⟨⟨x, q, .inl rfl⟩, n⟩, fun b x _ n f => by rw [upd_ne (fun z => n l k (by rw [z]; exact ea))]; exact f⟩⟩
  · by_cases hb : b = a
    · subst hb; rw [upd_same] at q; cases q; exact eu
    · rw [upd_ne hb] at q; exact w.sub b x q
  · rw [gt_pt e] at q
    by_cases hq : l' = l ∧ k' = k
    · rw [if_pos hq] at q; cases q; exact absurd rfl n
    · rw [if_neg hq] at q
      obtain ⟨b, y, f1, f2, f3, f4⟩ := w.live l' k' x q n
      have nb : b ≠ a := fun z => hq (by subst z; exact w.inj _ _ _ _ _ f1 ea)
      exact ⟨b, y, f1, by rw [upd_ne nb]; exact f2, f3, f4.mono (fun _ _ _ q => q) sF⟩
  · rw [gt_pt e] at q
    by_cases hq : l' = l ∧ k' = k
    · rw [if_pos hq] at q; cases q; rfl
    · rw [if_neg hq] at q; exact w.lv _ _ _ q
/-- a call's region -/
theorem Wd.push (w : Wd τ K α F H h) : Wd τ K ([] :: α) F H ([] :: h) := by
  have hl := w.len
  have g1 : ∀ {l k : Nat} {a : Addr}, gt ([] :: α) l k = some a → gt α l k = some a := fun {l k a} e => by
    rw [gt_cons] at e
    by_cases q : l = α.length
    · rw [if_pos q] at e; simp at e
    · rw [if_neg q] at e; exact e
  have g2 : ∀ {l k : Nat} {a : Ob}, gt ([] :: h) l k = some a → gt h l k = some a := fun {l k a} e => by
    rw [gt_cons] at e
    by_cases q : l = h.length
    · rw [if_pos q] at e; simp at e
    · rw [if_neg q] at e; exact e
  refine ⟨by simp [w.shape], w.sub, fun l k o e n => ?_, fun l k l' k' a e1 e2 => w.inj _ _ _ _ _ (g1 e1) (g1 e2), fun l k a e => w.there _ _ _ (g1 e), fun l k o e => w.lv _ _ _ (g2 e), fun q hq => let ⟨t, f, n⟩ := w.tabs q hq; ⟨t, f, fun l k z => n l k (g1 z)⟩⟩
  obtain ⟨a, u, e1, e2, e3, r⟩ := w.live l k o (g2 e) n
  exact ⟨a, u, gt_old e1, e2, e3, r.mono (fun l k a e => gt_old e) (Same.refl _)⟩
theorem Wd.pop {r : List Addr} {t : List Ob} (w : Wd τ K (r :: α') F' H' (t :: h')) (x : Ext ([] :: α) F H (r :: α') F' H') : Wd τ K α' F' H' h' ∧ Ext α F H α' F' H' := by
  have hs : α'.map List.length = h'.map List.length := by
    have := w.shape
    simp only [List.map_cons, List.cons.injEq] at this
    exact this.2
  have hl : α'.length = h'.length := by simpa using congrArg List.length hs
  have hl2 : α'.length = α.length := by simpa using x.len
  refine ⟨⟨hs, w.sub, fun l k o e n => ?_, fun l k l' k' a e1 e2 => w.inj _ _ _ _ _ (gt_old e1) (gt_old e2), fun l k a e => w.there _ _ _ (gt_old e), fun l k o e => w.lv _ _ _ (gt_old e), fun q hq => let ⟨t, f, n⟩ := w.tabs q hq; ⟨t, f, fun l k z => n l k (gt_old z)⟩⟩, ⟨hl2, fun l k a e => ?_, x.sub, fun a o e n => ?_, fun a o e n f => x.fnew a o e (fun l k z => by
      rw [gt_cons] at z
      by_cases q : l = α.length
      · rw [if_pos q] at z; simp at z
      · rw [if_neg q] at z; exact n _ _ z) f⟩⟩
  · obtain ⟨a, u, e1, e2, e3, r⟩ := w.live l k o (gt_old e) n
    have hlt := gt_lt e
    have hok := w.lv l k o (gt_old e)
    refine ⟨a, u, by rw [gt_of_lt (by omega)] at e1; exact e1, e2, e3, r.pop ?_⟩
    exact Ob.okMono (by omega) hok
  · have := x.look l k a (gt_old e)
    rw [gt_of_lt (by have := gt_lt e; omega)] at this
    exact this
  · obtain ⟨e1, n1⟩ := x.stay a o e fun l k z => by
      rw [gt_cons] at z
      by_cases q : l = α.length
      · rw [if_pos q] at z; simp at z
      · rw [if_neg q] at z; exact n _ _ z
    exact ⟨e1, fun l k z => n1 l k (gt_old z)⟩

end
end Bk

/-! BkRep: tuple * 0, tuple * 1. -/
namespace Bk
open PySem PySem.Spec PyProof.Rows L2
theorem tuple_mul0 (l : Addr) (items : Array Value) (n : Nat) (dd : Option Addr) (sl : Array (Option Value)) (x : Int) (u : Tok) (c0 : (decide (x < -(2 ^ 63)) || decide (x ≥ 2 ^ 63)) = false) (c1 : (items.isEmpty || x == 1) = false) (c2 : (decide (x ≤ 0) || items.isEmpty) = true) :
    Meets (Builtin.«tuple.__mul__» ⟨[.ref l, .int x u], []⟩) (fun _ R s => s.heap.get? l = some { cls := .type "tuple", dict := dd, data := .seq items n, slots := sl } ∧
      R (.ok (.ret (Value.ref s.heap.objs.size))) { s with heap := s.heap.push { cls := Value.type "tuple", data := Data.seq #[] }, toks := s.toks }) :=
  .of_wp fun prog w A R s h => by
    obtain ⟨hp, g, d, tk, os⟩ := s
    obtain ⟨hl, h⟩ := h
    have f1 := AutoSeq1.idx_int
    wp_walk using wpAny_loadPart' hl
    repeat (first
      | (refine wpAny_ite_false (decide_eq_false (by rw [c0]; exact Bool.false_ne_true)) ?_; wp_walk using wpAny_loadPart' hl)
      | (refine wpAny_ite_false (decide_eq_false (by rw [c1]; exact Bool.false_ne_true)) ?_; wp_walk using wpAny_loadPart' hl)
      | (refine wpAny_ite_true (decide_eq_true (by rw [c2])) ?_; wp_walk using wpAny_loadPart' hl))
    exact ⟨_, rfl, h⟩
theorem tuple_mul1 (l : Addr) (items : Array Value) (n : Nat) (dd : Option Addr) (sl : Array (Option Value)) (u : Tok) :
    Meets (Builtin.«tuple.__mul__» ⟨[.ref l, .int 1 u], []⟩) (fun _ R s => s.heap.get? l = some { cls := .type "tuple", dict := dd, data := .seq items n, slots := sl } ∧
      R (.ok (.ret (Value.ref l))) s) :=
  .of_wp fun prog w A R s h => by
    obtain ⟨hp, g, d, tk, os⟩ := s
    obtain ⟨hl, h⟩ := h
    have f1 := AutoSeq1.idx_int
    have c0 : (decide ((1 : Int) < -(2 ^ 63)) || decide ((1 : Int) ≥ 2 ^ 63)) = false := by decide
    have c1 : (items.isEmpty || (1 : Int) == 1) = true := by simp
    wp_walk using wpAny_loadPart' hl
    repeat (first
      | (refine wpAny_ite_false (decide_eq_false (by rw [c0]; exact Bool.false_ne_true)) ?_; wp_walk using wpAny_loadPart' hl)
      | (refine wpAny_ite_true (decide_eq_true (by rw [c1])) ?_; wp_walk using wpAny_loadPart' hl))
    exact ⟨_, rfl, h⟩
section
variable {X : Cx}
def rRepT0 (K : PySem.W.Frag) : R2 := fun x y H Q => ∃ l k xs, x = .ref l ∧ y = .int k ∧ SqT K H l xs ∧ ((k = 1 ∧ Q (.ref l) H) ∨ (xs ≠ [] ∧ -1000 ≤ k ∧ k ≤ 0 ∧ ∀ p, H p = none → Q (.ref p) (upd H p (.tup []))))
theorem op_repT0 : OpR X (binaryOp .Mult) (rRepT0 X.K) := by
  intro pins s σ H x y v u Q I rx ry h
  obtain ⟨l, k, xs, rfl, rfl, hT, h⟩ := h
  cases rx
  obtain ⟨t, rfl⟩ := ry
  obtain ⟨its, r, ⟨⟨cls, dd, data, sl⟩, ho, hc, n, hd⟩, hs⟩ := I.tuple hT
  simp only at hc hd
  subst hc hd
  rcases h with ⟨rfl, q⟩ | ⟨hne, h1, h2, q⟩
  · refine wpAny_binaryOp_repeat_ref (T := "tuple") (U := "int") (by decide) ⟨_, ho, rfl⟩ (fun s' => typeIs_int s' 1 t) noFill_tuple_mul F.fills_int_mul F.slot_int_rmul repeat_tuple F.slot_int_index.lookup
      (call_meets F.slot_int_rmul (typeIs_int s 1 t) F.entry_int_rmul (F.args_int_rmul_2 _ _) (int_rmul_tuple 1 t l its.toArray n dd sl)
        ⟨ho, rfl, ⟨_, ho, rfl⟩, call_meets F.slot_tuple_mul ⟨_, ho, rfl⟩ F.entry_tuple_mul (F.args_tuple_mul_2 _ _) (tuple_mul1 l its.toArray n dd sl t) ⟨ho, ?_⟩⟩)
    exact ⟨.ref l, H, I, rfl, q⟩
  · have hle : its.length = xs.length := r.length.symm
    have hn : its ≠ [] := fun e => hne (by
      rw [e] at hle
      exact List.eq_nil_of_length_eq_zero hle.symm)
    have hi : its.toArray.isEmpty = false := by
      cases its with
      | nil => exact absurd rfl hn
      | cons a b => rfl
    have c0 : (decide (k < -(2 ^ 63)) || decide (k ≥ 2 ^ 63)) = false := by
      rw [decide_eq_false (by omega), decide_eq_false (by omega)] <;> rfl
    have c1 : (its.toArray.isEmpty || k == 1) = false := by
      rw [hi, Bool.false_or]
      exact beq_eq_false_iff_ne.mpr (by omega)
    have c2 : (decide (k ≤ 0) || its.toArray.isEmpty) = true := by
      rw [decide_eq_true h2, Bool.true_or]
    refine wpAny_binaryOp_repeat_ref (T := "tuple") (U := "int") (by decide) ⟨_, ho, rfl⟩ (fun s' => typeIs_int s' k t) noFill_tuple_mul F.fills_int_mul F.slot_int_rmul repeat_tuple F.slot_int_index.lookup
      (call_meets F.slot_int_rmul (typeIs_int s k t) F.entry_int_rmul (F.args_int_rmul_2 _ _) (int_rmul_tuple k t l its.toArray n dd sl)
        ⟨ho, rfl, ⟨_, ho, rfl⟩, call_meets F.slot_tuple_mul ⟨_, ho, rfl⟩ F.entry_tuple_mul (F.args_tuple_mul_2 _ _) (tuple_mul0 l its.toArray n dd sl k t c0 c1 c2) ⟨ho, ?_⟩⟩)
    refine ⟨.ref s.heap.objs.size, _, I.laid (t' := s.toks) (o := .tup []) (fun b ob q => Heap.get?_push_of_some _ q) (Nat.le_refl _) ?_, rfl, q _ (I.hok.fresh (Nat.le_refl _))⟩
    exact ⟨by decide, [], .nil, IsTup.new _ _⟩
end
end Bk

/-! BkOps: readings of the evaluator's answers; the operators. -/
namespace Bk
open PySem PySem.Spec PyProof.Rows L2

abbrev St := L2.St
/-- the text's facts that exceptions want -/
def D.v : D → V
  | .bl b => .bl b
  | .int i => .int i
  | .str x => .str x
  | _ => .non
/-- the exception e flies as one of class cls, its dict at dd -/
structure RX (mg : Str → Option Value) (F : Hp) (e : Exn) (cls : Value) (dd : Option Addr) : Prop where
  at_ : ∃ C d, mg e.cls = some (.ref C) ∧ cls = .ref C ∧ dd = some d ∧ F d = some (.xd (e.fs.map fun p => (p.1, p.2.v)))
  im : e.fs.all (fun p => p.2.imm) = true

section
variable (τ : List Addr) (K : PySem.W.Frag) (mg : Str → Option Value)
/-- what is wanted of an answer -/
def RP {A B : Type} (E : XK) (rel : Al → Hp → A → B → Prop) (α : Al) (F H : Hp) (r : Res A) (Q : B → Hp → Prop) : Prop := match r with
  | .ok d h' => ∀ α' F' H' b, Ext α F H α' F' H' → Wd τ K α' F' H' h' → rel α' F' d b → Q b H'
  | .exc e h' => ∀ (α' : Al) (F' H' : Hp) (cls : Value) (dd : Option Addr), Ext α F H α' F' H' → Wd τ K α' F' H' h' → RX mg F' e cls dd → E cls dd H'
  | .bad => False
def SR (α : Al) (F : Hp) (s : Sl) (σ : St) : Prop := s.length = σ.length ∧ ∀ (i : Nat) (d : D), s[i]? = some (some d) → ∃ v, σ[i]? = some (some v) ∧ RD K α F d v
def relB : Al → Hp → Bool → Bool → Prop := fun _ _ b c => b = c
/-- the state -/
def At (α : Al) (F H : Hp) (h : Hs) (s : Sl) (σ : St) : Prop := Wd τ K α F H h ∧ SR K α F s σ
def tR {A B : Type} (W : WX) (rel : Al → Hp → A → B → Prop) (f : Sl → Hs → Res A) : St → Hp → (B → Hp → Prop) → Prop :=
  fun σ H Q => ∃ α F h s, At τ K α F H h s σ ∧ RP τ K mg (fun c d H => W c d σ H) rel α F H (f s h) Q
abbrev tE (W : WX) (f : Sl → Hs → Res D) : TE := tR τ K mg W (RD K) f
abbrev tT (W : WX) (f : Sl → Hs → Res Bool) : TT := tR τ K mg W relB f
abbrev tA (W : WX) (f : Sl → Hs → Res (List D)) : TA := tR τ K mg W (RDs K) f
end

section
variable {K : PySem.W.Frag} {mg : Str → Option Value} {α α' : Al} {F F' H H' : Hp} {h h' : Hs} {s : Sl} {σ : St} {E : XK}
theorem SR.mono (x : Ext α F H α' F' H') (r : SR K α F s σ) : SR K α' F' s σ := ⟨r.1, fun i d e => let ⟨v, e1, r1⟩ := r.2 i d e; ⟨v, e1, x.rd r1⟩⟩
theorem RP.ext {A B : Type} {rel : Al → Hp → A → B → Prop} {r : Res A} {Q : B → Hp → Prop} (x : Ext α F H α' F' H') (p : RP τ K mg E rel α F H r Q) : RP τ K mg E rel α' F' H' r Q := by
  cases r with
  | ok d h' => exact fun α2 F2 H2 b y w q => p α2 F2 H2 b (x.trans y) w q
  | exc e h' => exact fun α2 F2 H2 c d y w q => p α2 F2 H2 c d (x.trans y) w q
  | bad => exact p
theorem RP.bind {A B C C' : Type} {rel : Al → Hp → A → B → Prop} {rel' : Al → Hp → C → C' → Prop} {r : Res A} {f : A → Hs → Res C} {Q : C' → Hp → Prop} (p : RP τ K mg E rel' α F H (r.bind f) Q) :
    RP τ K mg E rel α F H r (fun b H1 => ∃ α1 F1 h1 d, Ext α F H α1 F1 H1 ∧ Wd τ K α1 F1 H1 h1 ∧ rel α1 F1 d b ∧ RP τ K mg E rel' α1 F1 H1 (f d h1) Q) := by
  cases r with
  | ok d h' => exact fun α1 F1 H1 b x w q => ⟨α1, F1, h', d, x, w, q, p.ext x⟩
  | exc e h' => exact p
  | bad => exact p
theorem RP.ok {A B : Type} {rel : Al → Hp → A → B → Prop} {d : A} {b : B} {Q : B → Hp → Prop} (w : Wd τ K α F H h) (q : rel α F d b) (p : RP τ K mg E rel α F H (.ok d h) Q) : Q b H := p α F H b Ext.refl w q
theorem _root_.L2.PE.imp {X : Cx} {e : Expr} {t t' : TE} (p : PE X e t) (i : ∀ σ H Q, t' σ H Q → t σ H Q) : PE X e t' := ⟨fun pins s σ H Q I q => p.run pins s σ H Q I (i σ H Q q)⟩
theorem _root_.L2.PT.imp {X : Cx} {e : Expr} {t t' : TT} (p : PT X e t) (i : ∀ σ H Q, t' σ H Q → t σ H Q) : PT X e t' := ⟨fun pins s σ H Q I q => p.run pins s σ H Q I (i σ H Q q)⟩
theorem _root_.L2.PW.imp {X : Cx} {e : Expr} {t t' : TT} (p : PW X e t) (i : ∀ σ H Q, t' σ H Q → t σ H Q) : PW X e t' := ⟨fun wh pins s σ H Q I q => p.run wh pins s σ H Q I (i σ H Q q)⟩
theorem _root_.L2.PA.imp {X : Cx} {e : List Expr} {t t' : TA} (p : PA X e t) (i : ∀ σ H Q, t' σ H Q → t σ H Q) : PA X e t' := ⟨fun pos pins s σ H Q I q => p.run pos pins s σ H Q I (i σ H Q q)⟩
theorem _root_.L2.PS.imp {X : Cx} {e : Stmt} {t t' : TS} (p : PS X e t) (i : ∀ D σ H, t' D σ H → t D σ H) : PS X e t' := ⟨fun pins s σ H D I q => p.run pins s σ H D I (i D σ H q)⟩
theorem _root_.L2.PSs.imp {X : Cx} {e : List Stmt} {t t' : TS} (p : PSs X e t) (i : ∀ D σ H, t' D σ H → t D σ H) : PSs X e t' := ⟨fun pins s σ H D I q => p.run pins s σ H D I (i D σ H q)⟩
theorem _root_.L2.PE.no {X : Cx} {e : Expr} {t : TE} (i : ∀ σ H Q, ¬ t σ H Q) : PE X e t := ⟨fun pins s σ H Q I q => absurd q (i σ H Q)⟩
theorem _root_.L2.PT.no {X : Cx} {e : Expr} {t : TT} (i : ∀ σ H Q, ¬ t σ H Q) : PT X e t := ⟨fun pins s σ H Q I q => absurd q (i σ H Q)⟩
theorem _root_.L2.PA.no {X : Cx} {e : List Expr} {t : TA} (i : ∀ σ H Q, ¬ t σ H Q) : PA X e t := ⟨fun pos pins s σ H Q I q => absurd q (i σ H Q)⟩
theorem _root_.L2.PS.no {X : Cx} {e : Stmt} {t : TS} (i : ∀ D σ H, ¬ t D σ H) : PS X e t := ⟨fun pins s σ H D I q => absurd q (i D σ H)⟩
theorem tR_bad {A B : Type} {W : WX} {rel : Al → Hp → A → B → Prop} {f : Sl → Hs → Res A} (e : ∀ s h, f s h = .bad) {H : Hp} {Q : B → Hp → Prop} : ¬ tR τ K mg W rel f σ H Q := by
  rintro ⟨α, F, h, s, _, p⟩
  rw [e] at p
  exact p
/-- two parts of an expression, one behind the other -/
theorem tR.bind {A B C C' : Type} {W : WX} {rel : Al → Hp → A → B → Prop} {rel' : Al → Hp → C → C' → Prop} {f : Sl → Hs → Res A} {g : Sl → A → Hs → Res C} {H : Hp} {Q : C' → Hp → Prop}
    (p : tR τ K mg W rel' (fun s h => (f s h).bind (g s)) σ H Q) :
    tR τ K mg W rel f σ H (fun b H1 => ∃ α1 F1 h1 s d, At τ K α1 F1 H1 h1 s σ ∧ rel α1 F1 d b ∧ RP τ K mg (fun c d H => W c d σ H) rel' α1 F1 H1 (g s d h1) Q) := by
  obtain ⟨α, F, h, s, ⟨w, r⟩, p⟩ := p
  refine ⟨α, F, h, s, ⟨w, r⟩, ?_⟩
  have := RP.bind (rel := rel) p
  revert this
  generalize f s h = o
  intro this
  cases o with
  | ok d h' =>
    intro α1 F1 H1 b x w1 q
    obtain ⟨α2, F2, h2, d2, x2, w2, q2, p2⟩ := this α1 F1 H1 b x w1 q
    exact ⟨α2, F2, h2, s, d2, ⟨w2, r.mono x2⟩, q2, p2⟩
  | exc e h' => exact this
  | bad => exact this
/-- .. from a state that is there -/
theorem RP.start {A B : Type} {W : WX} {rel : Al → Hp → A → B → Prop} {f : Sl → Hs → Res A} {H : Hp} {Q : B → Hp → Prop} (a : At τ K α F H h s σ) (p : RP τ K mg (fun c d H => W c d σ H) rel α F H (f s h) Q) : tR τ K mg W rel f σ H Q :=
  ⟨α, F, h, s, a, p⟩

/-! ### new objects -/
theorem RP.mkT {Q : VK} {ds : List D} {vs : List V} (w : Wd τ K α F H h) (r : RDs K α F ds vs) (p : RP τ K mg E (RD K) α F H (mkT ds h) Q) : vs.length ≤ sizeLine ∧ ∀ q, H q = none → Q (.ref q) (upd H q (.tup vs)) := by
  unfold Bk.mkT at p
  split at p
  · rename_i hz
    refine ⟨by rw [← r.length]; exact hz, fun q hq => ?_⟩
    obtain ⟨w', x', e'⟩ := w.newF hq (.tup vs)
    exact p _ _ _ _ x' w' (.tup (SqT.of e') (x'.rds r))
  · exact p.elim
theorem RP.mkL {Q : VK} {b : Bool} {ds : List D} {vs : List V} (w : Wd τ K α F H h) (r : RDs K α F ds vs) (p : RP τ K mg E (RD K) α F H (mkL b ds h) Q) : vs.length ≤ sizeLine ∧ ∀ q, H q = none → Q (.ref q) (upd H q (.lst vs)) := by
  unfold Bk.mkL at p
  split at p
  · rename_i hz
    refine ⟨by rw [← r.length]; exact hz, fun q hq => ?_⟩
    split at p
    · cases h with
      | nil => exact p.elim
      | cons top rest =>
        cases α with
        | nil => exact absurd w.len (by simp)
        | cons at_ ar =>
          have hl : (at_ :: ar).length = (top :: rest).length := w.len
          obtain ⟨w', x', e'⟩ := w.newL hq (RO.lst r) (by
            have := RDs.okLen r
            rw [hl] at this
            exact this)
          exact p _ _ _ _ x' w' (.loc e')
    · obtain ⟨w', x', e'⟩ := w.newF hq (.lst vs)
      exact p _ _ _ _ x' w' (.lst e' (x'.rds r))
  · exact p.elim
/-! ### what a value holds -/
theorem cur_live (w : Wd τ K α F H h) {l k : Nat} {a : Addr} {xs : List D} (g : gt α l k = some a) (e : cur h l k = some xs) : ∃ vs, H a = some (.lst vs) ∧ RDs K α F xs vs := by
  obtain ⟨a', u, e1, _, e3, r⟩ := w.live _ _ _ (cur_iff.mp e) (fun z => by cases z)
  rw [g] at e1; cases e1
  cases r with
  | lst r => exact ⟨_, e3, r⟩
theorem own_of (w : Wd τ K α F H h) {d : D} {v : V} {xs : List D} (r : RD K α F d v) (e : d.own h = some xs) : ∃ a vs, v = .ref a ∧ H a = some (.lst vs) ∧ RDs K α F xs vs := by
  cases r with
  | lst f q => cases e; exact ⟨_, _, rfl, w.sub _ _ f, q⟩
  | loc g =>
    obtain ⟨vs, e3, r⟩ := cur_live w g e
    exact ⟨_, _, rfl, e3, r⟩
  | _ => cases e
theorem items_of (w : Wd τ K α F H h) {d : D} {v : V} {xs : List D} (r : RD K α F d v) (e : d.items h = some xs) : ∃ a vs, v = .ref a ∧ SqL K H a vs ∧ RDs K α F xs vs := by
  cases r with
  | lst f q => cases e; exact ⟨_, _, rfl, .of (w.sub _ _ f), q⟩
  | scr f => cases e; exact ⟨_, _, rfl, w.sub.seq f, RDs.ints _⟩
  | loc g =>
    obtain ⟨vs, e3, r⟩ := cur_live w g e
    exact ⟨_, _, rfl, .of e3, r⟩
  | _ => cases e
theorem seq_of (w : Wd τ K α F H h) {d : D} {v : V} {xs : List D} (r : RD K α F d v) (e : d.seq h = some xs) : ∃ a vs, v = .ref a ∧ (SqL K H a vs ∨ SqT K H a vs) ∧ RDs K α F xs vs := by
  cases r with
  | tup f q => cases e; exact ⟨_, _, rfl, .inr (Same.seqT w.sub f), q⟩
  | lst f q =>
    obtain ⟨a, vs, e1, e2, e3⟩ := items_of w (RD.lst f q) e
    exact ⟨a, vs, e1, .inl e2, e3⟩
  | scr f =>
    obtain ⟨a, vs, e1, e2, e3⟩ := items_of w (RD.scr f) e
    exact ⟨a, vs, e1, .inl e2, e3⟩
  | loc g =>
    obtain ⟨a, vs, e1, e2, e3⟩ := items_of w (RD.loc g) e
    exact ⟨a, vs, e1, .inl e2, e3⟩
  | _ => cases e
theorem emp_eq {ds : List D} {vs : List V} (r : RDs K α F ds vs) : (!ds.isEmpty) = !vs.isEmpty := by cases r <;> rfl
theorem truth_of (w : Wd τ K α F H h) {d : D} {v : V} {b : Bool} (r : RD K α F d v) (e : truth d h = some b) : TruV K v H b := by
  cases r with
  | non => cases e; rfl
  | bl c => cases e; rfl
  | int i => cases e; rfl
  | str x =>
    simp only [truth] at e
    split at e
    · rename_i hz
      cases e
      exact ⟨hz, rfl⟩
    · cases e
  | ty n => cases e
  | tup f q =>
    cases e
    exact .inr (.inl ⟨_, Same.seqT w.sub f, emp_eq q⟩)
  | lst f q =>
    cases e
    exact .inl ⟨_, .of (w.sub _ _ f), emp_eq q⟩
  | scr f =>
    cases e
    exact .inl ⟨_, w.sub.seq f, emp_eq (RDs.ints (K := K) (α := α) (F := F) _)⟩
  | loc g =>
    obtain ⟨xs, e1, e2⟩ := Option.map_eq_some_iff.mp (show (cur h _ _).map (fun xs => !xs.isEmpty) = some b from e)
    obtain ⟨vs, e3, r⟩ := cur_live w g e1
    exact .inl ⟨_, .of e3, by rw [← e2]; exact emp_eq r⟩

/-! ### == -/
mutual
theorem py_of (w : Wd τ K α F H h) : ∀ {d : D} {v : V} {p : PyData}, RD K α F d v → d.py = some p → Dp K H v p
  | _, _, _, .non, e => by cases e; exact .non
  | _, _, _, .bl b, e => by cases e; exact .bl b
  | _, _, _, .int i, e => by cases e; exact .int i
  | _, _, _, .str x, e => by cases e; exact .str x
  | _, _, _, .ty n, e => by cases e
  | _, _, _, .tup f q, e => by
    simp only [D.py] at e
    obtain ⟨ps, e1, rfl⟩ := Option.map_eq_some_iff.mp e
    exact .tup (Same.seqT w.sub f) (pys_of w q e1)
  | _, _, _, .lst f q, e => by
    simp only [D.py] at e
    obtain ⟨ps, e1, rfl⟩ := Option.map_eq_some_iff.mp e
    exact .lst (.of (w.sub _ _ f)) (pys_of w q e1)
  | _, _, _, .scr f, e => by cases e
  | _, _, _, .loc f, e => by cases e
theorem pys_of (w : Wd τ K α F H h) : ∀ {ds : List D} {vs : List V} {ps : List PyData}, RDs K α F ds vs → D.pys ds = some ps → DpAll K H vs ps
  | _, _, _, .nil, e => by cases e; exact .nil
  | _, _, _, .cons x q, e => by
    simp only [D.pys, Option.bind_eq_some_iff] at e
    obtain ⟨p, e1, e2⟩ := e
    obtain ⟨ps, e3, rfl⟩ := Option.map_eq_some_iff.mp e2
    exact .cons (py_of w x e1) (pys_of w q e3)
end
theorem now_of (w : Wd τ K α F H h) {d : D} {v : V} {p : PyData} (r : RD K α F d v) (e : (d.now h).py = some p) : Dp K H v p := by
  cases r with
  | loc g =>
    rename_i a l k
    have e' : (match cur h l k with | some xs => D.lst xs | none => D.loc l k).py = some p := e
    cases hc : cur h l k with
    | none => rw [hc] at e'; cases e'
    | some xs =>
      rw [hc] at e'
      obtain ⟨vs, e3, r⟩ := cur_live w g hc
      simp only [D.py] at e'
      obtain ⟨ps, e1, rfl⟩ := Option.map_eq_some_iff.mp e'
      exact .lst (.of e3) (pys_of w r e1)
  | tup f q => exact py_of w (.tup f q) e
  | lst f q => exact py_of w (.lst f q) e
  | non => exact py_of w .non e
  | bl b => exact py_of w (.bl b) e
  | int i => exact py_of w (.int i) e
  | str x => exact py_of w (.str x) e
  | ty n => exact py_of w (.ty n) e
  | scr f => exact py_of w (.scr f) e
theorem ints_of : ∀ {ds : List D} {vs : List V} {is : List Int}, RDs K α F ds vs → D.ints ds = some is → vs = is.map V.int
  | _, _, _, .nil, e => by cases e; rfl
  | _, _, _, .cons (.int i) q, e => by
    simp only [D.ints] at e
    obtain ⟨ps, e1, rfl⟩ := Option.map_eq_some_iff.mp e
    rw [ints_of q e1]; rfl
  | _, _, _, .cons .non _, e => by cases e
  | _, _, _, .cons (.bl _) _, e => by cases e
  | _, _, _, .cons (.str _) _, e => by cases e
  | _, _, _, .cons (.ty _) _, e => by cases e
  | _, _, _, .cons (.tup _ _) _, e => by cases e
  | _, _, _, .cons (.lst _ _) _, e => by cases e
  | _, _, _, .cons (.scr _) _, e => by cases e
  | _, _, _, .cons (.loc _) _, e => by cases e
theorem bools_of : ∀ {ds : List D} {vs : List V} {is : List Bool}, RDs K α F ds vs → bools ds = some is → vs = is.map V.bl
  | _, _, _, .nil, e => by cases e; rfl
  | _, _, _, .cons (.bl i) q, e => by
    simp only [bools] at e
    obtain ⟨ps, e1, rfl⟩ := Option.map_eq_some_iff.mp e
    rw [bools_of q e1]; rfl
  | _, _, _, .cons .non _, e => by cases e
  | _, _, _, .cons (.int _) _, e => by cases e
  | _, _, _, .cons (.str _) _, e => by cases e
  | _, _, _, .cons (.ty _) _, e => by cases e
  | _, _, _, .cons (.tup _ _) _, e => by cases e
  | _, _, _, .cons (.lst _ _) _, e => by cases e
  | _, _, _, .cons (.scr _) _, e => by cases e
  | _, _, _, .cons (.loc _) _, e => by cases e

/-! ### operators -/
/-- two values' reading by a function of data -/
def rD2 (τ : List Addr) (K : PySem.W.Frag) (mg : Str → Option Value) (f : D → D → Hs → Res D) : R2 := fun x y H Q => ∃ E α F h d e, Wd τ K α F H h ∧ RD K α F d x ∧ RD K α F e y ∧ RP τ K mg E (RD K) α F H (f d e h) Q
theorem intOp_ok {X : Cx} {op : Operator} {i j k : Int} (e : intOp op i j = some k) {pins : List (Addr × Obj)} {s : Shared} {v u : Value} {Q : VK} (I : Inv X pins σ H s) (rx : RelV (.int i) v) (ry : RelV (.int j) u) (q : Q (.int k) H) :
    wpAny (model X.prog X.w) X.A (binaryOp op v u) (EP X pins σ Q) X.xe s := by
  cases op with
  | Add => cases e; exact op_add pins s σ H _ _ v u Q I rx ry ⟨i, j, rfl, rfl, q⟩
  | Sub => cases e; exact op_sub pins s σ H _ _ v u Q I rx ry ⟨i, j, rfl, rfl, q⟩
  | Mult =>
    simp only [intOp] at e
    split at e
    · rename_i c; cases e; exact op_mul pins s σ H _ _ v u Q I rx ry ⟨i, j, rfl, rfl, c, q⟩
    · cases e
  | FloorDiv =>
    simp only [intOp] at e
    split at e
    · rename_i c; cases e; exact op_fdivN pins s σ H _ _ v u Q I rx ry ⟨i, j, rfl, rfl, c, q⟩
    · cases e
  | Mod =>
    simp only [intOp] at e
    split at e
    · rename_i c; cases e; exact op_modN pins s σ H _ _ v u Q I rx ry ⟨i, j, rfl, rfl, c, q⟩
    · cases e
  | Pow =>
    simp only [intOp] at e
    split at e
    · rename_i c; cases e; exact op_pow pins s σ H _ _ v u Q I rx ry ⟨i, j, rfl, rfl, c, q⟩
    · cases e
  | LShift =>
    simp only [intOp] at e
    split at e
    · rename_i c; cases e; exact op_shl pins s σ H _ _ v u Q I rx ry ⟨i, j, rfl, rfl, c, q⟩
    · cases e
  | RShift =>
    simp only [intOp] at e
    split at e
    · rename_i c; cases e; exact op_shr pins s σ H _ _ v u Q I rx ry ⟨i, j, rfl, rfl, c, q⟩
    · cases e
  | BitAnd => cases e; exact op_and pins s σ H _ _ v u Q I rx ry ⟨i, j, rfl, rfl, q⟩
  | BitOr => cases e; exact op_or pins s σ H _ _ v u Q I rx ry ⟨i, j, rfl, rfl, q⟩
  | BitXor => cases e; exact op_xor pins s σ H _ _ v u Q I rx ry ⟨i, j, rfl, rfl, q⟩
  | _ => cases e
theorem op_binD {X : Cx} (hK : X.K = K) (b : Bool) (op : Operator) : OpR X (binaryOp op) (rD2 τ K mg (binD b op)) := by
  subst hK
  intro pins s σ H x y v u Q I rx ry hq
  obtain ⟨E, α, F, h, d, e, w, r1, r2, p⟩ := hq
  unfold binD at p
  split at p
  · -- int, int
    cases r1; cases r2
    split at p
    · rename_i hi; exact intOp_ok hi I rx ry (p.ok w (.int _))
    · exact p.elim
  · cases r1; cases r2
    split at p
    · split at p
      · rename_i hz; exact op_add_str pins s σ H _ _ v u Q I rx ry ⟨_, _, rfl, rfl, hz, p.ok w (.str _)⟩
      · exact p.elim
    · exact p.elim
  · cases r1; cases r2
    split at p
    · exact op_add_ib pins s σ H _ _ v u Q I rx ry ⟨_, _, rfl, rfl, p.ok w (.int _)⟩
    · exact p.elim
  · cases r1 with
    | tup f1 q1 => cases r2 with
      | tup f2 q2 =>
        split at p
        · split at p
          · rename_i hz
            refine op_catA pins s σ H _ _ v u Q I rx ry ⟨_, _, _, _, rfl, rfl, Same.seqT w.sub f1, Same.seqT w.sub f2, by rw [← q1.length, ← q2.length]; exact hz, fun e0 => ?_, fun _ e0 => ?_, fun _ _ q hq => ?_⟩
            · subst e0
              cases q1
              exact p.ok w (.tup f2 q2)
            · subst e0
              cases q2
              rw [List.append_nil] at p
              exact p.ok w (.tup f1 q1)
            · obtain ⟨w', x', e'⟩ := w.newF hq (.tup (_ ++ _))
              exact p _ _ _ _ x' w' (.tup (SqT.of e') (x'.rds (q1.append q2)))
          · exact p.elim
        · exact p.elim
  · -- tuple * int
    cases r1 with
    | tup f1 q1 =>
      cases r2
      split at p
      · split at p
        · rename_i hz
          refine op_repT pins s σ H _ _ v u Q I rx ry ⟨_, _, _, rfl, rfl, Same.seqT w.sub f1, fun e0 => ?_, hz.1, hz.2.1, by rw [← q1.length]; exact hz.2.2.2, fun p' hp => ?_⟩
          · subst e0
            cases q1
            exact hz.2.2.1 rfl
          · obtain ⟨w', x', e'⟩ := w.newF hp (.tup (List.replicate _ _).flatten)
            exact p _ _ _ _ x' w' (.tup (SqT.of e') (x'.rds (q1.rep _)))
        · split at p
          · rename_i hk
            exact op_repT0 pins s σ H _ _ v u Q I rx ry ⟨_, _, _, rfl, rfl, Same.seqT w.sub f1, .inl ⟨hk, p.ok w (.tup f1 q1)⟩⟩
          · split at p
            · rename_i hk
              refine op_repT0 pins s σ H _ _ v u Q I rx ry ⟨_, _, _, rfl, rfl, Same.seqT w.sub f1, .inr ⟨fun e0 => ?_, hk.1, hk.2.1, fun p' hp => ?_⟩⟩
              · subst e0
                cases q1
                exact hk.2.2 rfl
              · obtain ⟨w', x', e'⟩ := w.newF hp (.tup [])
                exact p _ _ _ _ x' w' (.tup (SqT.of e') .nil)
            · exact p.elim
      · exact p.elim
  · -- * int
    cases r2
    split at p
    · rename_i hx
      split at p
      · rename_i hz
        obtain ⟨a, vs, rfl, f1, q1⟩ := own_of w r1 hx
        obtain ⟨p1, p2⟩ := RP.mkL w (q1.rep _) p
        exact op_rep pins s σ H _ _ v u Q I rx ry ⟨_, _, _, rfl, rfl, f1, hz.1, hz.2.1, by rw [← q1.length]; exact hz.2.2, p2⟩
      · exact p.elim
    · exact p.elim
  · split at p
    · rename_i hx hy
      split at p
      · rename_i hz
        obtain ⟨a, vs, rfl, f1, q1⟩ := own_of w r1 hx
        obtain ⟨a2, vs2, rfl, f2, q2⟩ := own_of w r2 hy
        obtain ⟨p1, p2⟩ := RP.mkL w (q1.append q2) p
        exact op_cat pins s σ H _ _ v u Q I rx ry ⟨_, _, _, _, rfl, rfl, f1, f2, by rw [← q1.length, ← q2.length]; exact hz, p2⟩
      · exact p.elim
    · exact p.elim
theorem un_negD {X : Cx} (hK : X.K = K) : UnR X (unaryOp .USub) (fun x H Q => ∃ E α F h d, Wd τ K α F H h ∧ RD K α F d x ∧ RP τ K mg E (RD K) α F H (negD d h) Q) := by
  subst hK
  intro pins s σ H x v Q I rx hq
  obtain ⟨E, α, F, h, d, w, r1, p⟩ := hq
  unfold negD at p
  split at p
  · cases r1; exact un_neg pins s σ H _ v Q I rx ⟨_, rfl, p.ok w (.int _)⟩
  · exact p.elim

/-! ### comparisons -/
theorem eqD_ok {X : Cx} (hK : X.K = K) (hu : X.A.units + 64 < cLine) {d e : D} {x y : V} {b : Bool} (w : Wd τ K α F H h) (r1 : RD K α F d x) (r2 : RD K α F e y) (q : eqD d e h = some b) :
    ∃ p p', Dp X.K H x p ∧ Dp X.K H y p' ∧ SeqAt.shaped p = true ∧ SeqAt.shaped p' = true ∧ PyData.eqv p p' = b := by
  subst hK
  unfold eqD at q
  split at q
  · rename_i p p' h1 h2
    split at q
    · rename_i hs
      cases q
      exact ⟨p, p', now_of w r1 h1, now_of w r2 h2, hs.1, hs.2, rfl⟩
    · cases q
  · cases q
theorem isD_ok {X : Cx} {d e : D} {x y : V} {b : Bool} (r1 : RD K α F d x) (r2 : RD K α F e y) (q : isD d e = some b) :
    (∃ a c : Bool, x = .bl a ∧ y = .bl c ∧ decide (a = c) = b) ∨ (y = .non ∧ decide (x = .non) = b) := by
  cases r1 <;> cases r2 <;> first | (cases q; done) | skip
  all_goals first
    | exact .inl ⟨_, _, rfl, rfl, Option.some.inj q⟩
    | (refine .inr ⟨rfl, ?_⟩; cases q; first | rfl | exact decide_eq_true rfl | exact decide_eq_false (fun z => nomatch z))
end
end Bk

/-! BkDc: dicts of the evaluator and what lies in the heap. -/
namespace Bk
open PySem PySem.Spec PyProof.Rows L2
section
variable {K : PySem.W.Frag} {mg : Str → Option Value} {α α' : Al} {F F' H H' : Hp} {h h' : Hs} {s : Sl} {σ : St} {E : XK}
theorem keyK_ok {d : D} {v : V} {k : Key} (r : RD K α F d v) (e : keyK d = some k) : v = kV k := by
  cases r <;> cases e <;> rfl
theorem intsT_ok : ∀ {ds : List D} {vs : List V} {ks : List Int}, RDs K α F ds vs → D.intsT ds = some ks → vs = ks.map V.int
  | [], _, ks, r, e => by cases r; cases e; rfl
  | d :: ds, _, ks, r, e => by
    cases r with
    | cons r1 r2 =>
      cases r1 with
      | int i =>
        obtain ⟨is, e1, rfl⟩ := Option.map_eq_some_iff.mp (show (D.intsT ds).map (fun is => i :: is) = some ks from e)
        rw [intsT_ok r2 e1]; rfl
      | _ => cases e
theorem keyT_ok {d : D} {v : V} {ks : List Int} (r : RD K α F d v) (e : keyT d = some ks) : ∃ b, v = .ref b ∧ SqT K F b (ks.map V.int) := by
  cases r with
  | tup f q => exact ⟨_, rfl, by rw [← intsT_ok q e]; exact f⟩
  | _ => cases e
theorem dvs_val {kvs : List (Key × D)} {ws : List (Key × V)} (r : DVs K α F kvs ws) (k : Key) : (∃ d v, vAt kvs k = some d ∧ valV ws k = some v ∧ RD K α F d v) ∨ (vAt kvs k = none ∧ valV ws k = none) := by
  induction r with
  | nil => exact .inr ⟨rfl, rfl⟩
  | @cons p q ps qs h t ih =>
    obtain ⟨h1, h2⟩ := h
    by_cases e : p.1 = k
    · exact .inl ⟨p.2, q.2, by simp [vAt, e], by simp [valV, ← h1, e], h2⟩
    · have e1 : vAt (p :: ps) k = vAt ps k := by simp [vAt, e]
      have e2 : valV (q :: qs) k = valV qs k := by simp [valV, ← h1, e]
      rw [e1, e2]; exact ih
theorem any_val {κ : Type} [DecidableEq κ] (ws : List (κ × V)) (k : κ) : (ws.any fun kv => decide (kv.1 = k)) = (valV ws k).isSome := by
  unfold valV
  rw [Option.isSome_map]
  induction ws with
  | nil => rfl
  | cons p r ih =>
    rw [List.any_cons, List.find?_cons]
    by_cases e : p.1 = k
    · simp [e]
    · simp [e, ih]
theorem dvs_put {kvs : List (Key × D)} {ws : List (Key × V)} (r : DVs K α F kvs ws) (k : Key) {d : D} {v : V} (rd : RD K α F d v) : DVs K α F (vPut kvs k d) (putK ws k v) := by
  have key : (vAt kvs k).isSome = (valV ws k).isSome := by
    rcases dvs_val r k with ⟨_, _, e1, e2, _⟩ | ⟨e1, e2⟩ <;> rw [e1, e2] <;> rfl
  unfold vPut putK
  rw [any_val, ← key]
  split
  · rename_i hc
    clear key hc
    induction r with
    | nil => exact .nil
    | @cons p q ps qs h t ih =>
      obtain ⟨h1, h2⟩ := h
      rw [List.map_cons, List.map_cons]
      refine .cons ?_ ih
      by_cases e : p.1 = k
      · rw [if_pos e, if_pos (h1.symm.trans e)]; exact ⟨h1, rd⟩
      · rw [if_neg e, if_neg (fun z => e (h1.trans z))]; exact ⟨h1, h2⟩
  · exact Paired.snoc r ⟨rfl, rd⟩
theorem dts_val {kvs : List (List Int × D)} {xs : List EI} (r : DTs K α F kvs xs) (k : List Int) : (∃ d v p, vAt kvs k = some d ∧ atKey xs k = some p ∧ RD K α F d v ∧ RelV v p.2) ∨ (vAt kvs k = none ∧ atKey xs k = none) := by
  induction r with
  | nil => exact .inr ⟨rfl, rfl⟩
  | @cons p q ps qs h t ih =>
    obtain ⟨h1, _, v, h2, h3⟩ := h
    by_cases e : p.1 = k
    · exact .inl ⟨p.2, v, q.2, by simp [vAt, e], by simp [atKey, ← h1, e], h2, h3⟩
    · have e1 : vAt (p :: ps) k = vAt ps k := by simp [vAt, e]
      have e2 : atKey (q :: qs) k = atKey qs k := by simp [atKey, ← h1, e]
      rw [e1, e2]; exact ih
theorem dts_put {kvs : List (List Int × D)} {xs : List EI} (r : DTs K α F kvs xs) (k : List Int) {d : D} {v : V} {u : Value} {b : Addr} (hb : SqT K F b (k.map V.int)) (rd : RD K α F d v) (rv : RelV v u) : DTs K α F (vPut kvs k d) (storedH xs k b u) := by
  have key : (vAt kvs k).isSome = (atKey xs k).isSome := by
    rcases dts_val r k with ⟨_, _, _, e1, e2, _⟩ | ⟨e1, e2⟩ <;> rw [e1, e2] <;> rfl
  unfold vPut storedH
  rw [← key]
  split
  · rename_i hc
    clear key hc
    induction r with
    | nil => exact .nil
    | @cons p q ps qs h t ih =>
      obtain ⟨h1, h0, v', h2, h3⟩ := h
      rw [List.map_cons, List.map_cons]
      refine .cons ?_ ih
      unfold putAt
      by_cases e : p.1 = k
      · rw [if_pos e, if_pos (h1.symm.trans e)]; exact ⟨h1, h0, v, rd, rv⟩
      · rw [if_neg e, if_neg (fun z => e (h1.trans z))]; exact ⟨h1, h0, v', h2, h3⟩
  · exact Paired.snoc r ⟨rfl, hb, v, rd, rv⟩
theorem dts_keys (sub : Same F H) {kvs : List (List Int × D)} {xs : List EI} (r : DTs K α F kvs xs) : KeysI K H xs := by
  induction r with
  | nil => exact fun x hx => nomatch hx
  | @cons p q ps qs h t ih =>
    obtain ⟨h1, h0, _⟩ := h
    intro x hx
    rcases List.mem_cons.mp hx with rfl | hx
    · rw [← h1]; exact Same.seqT sub h0
    · exact ih x hx
/-- a dict that stands at a place -/
theorem dcAt_live (w : Wd τ K α F H h) {d : D} {v : V} (r : RD K α F d v) {l k : Nat} {o : Ob} (e : dcAt d h = some (l, k, o)) :
    ∃ a u, v = .ref a ∧ gt h l k = some o ∧ o ≠ .dead ∧ gt α l k = some a ∧ F a = none ∧ H a = some u ∧ RO K α F a o u ∧ ((∃ kvs, o = .dk kvs) ∨ ∃ kvs, o = .dt kvs) := by
  unfold dcAt at e
  split at e
  · split at e
    · split at e
      · rename_i l' k' o' hg hd
        cases e
        cases r with
        | loc g =>
          have nd : o ≠ .dead := fun z => by rw [z] at hd; cases hd
          obtain ⟨a, u, e1, e2, e3, r⟩ := w.live l k o hg nd
          rw [g] at e1; cases e1
          refine ⟨_, u, rfl, hg, nd, g, e2, e3, r, ?_⟩
          cases o with
          | dk kvs => exact .inl ⟨_, rfl⟩
          | dt kvs => exact .inr ⟨_, rfl⟩
          | _ => cases hd
      · cases e
    · cases e
  · cases e
end
end Bk

/-! BkExc: own exception classes whose __init__ says super().__init__(..) and stores its parameters: made by a call. -/
namespace Bk
open PySem PySem.Spec PyProof.Rows L2 NdefX
section
variable {CX : CXT} {P : Program} {w : World} {K : PySem.W.Frag} {mg : Str → Option Value} {base : Heap} {N : List Str} {F : NF} {f : Addr} {A : Around} {outer : List Env} {s0 : Shared} {H0 : Hp} {E0 : XK}
/-- what the written part says of the class C and of its __init__ f, for super() there -/
structure SupC (P : Program) (K : PySem.W.Frag) (mg : Str → Option Value) (F : NF) (C f cc : Addr) : Prop where
  T : OexC K C
  fn : ∃ oc od doc pm ctv sl, K.lookup f = some ⟨oc, od, .func (F.fd doc pm ctv), sl⟩
  code : ∃ ccl cdd vs ccs file tf, K.lookup F.c = some ⟨ccl, cdd, .fields vs, ccs⟩ ∧ vs[2]? = some (.str file tf) ∧ ((P.main.file : Str) == file) = true
  cl : F.cl = [(("__class__" : Str), cc)]
  cell : ∃ k1 k2 k3, K.lookup cc = some ⟨k1, k2, .cell (some (.ref C)), k3⟩
  sub : PySem.W.mroIn K C (.ref C) = some true
  up : PySem.W.ks_superIn K C C "__init__" = some (some (.builtin "ValueError.__init__"))
  ve : PySem.W.subIn K (.ref C) (.type "ValueError") = some true
  op : PySem.W.nsIn K PySem.cStatics "thirdparty.any" = some none
  noSuper : mg "super" = none
  noTop : (P.main.scope.names.lookup ("super" : Str)).isSome = false
theorem exec_super {cc C a : Addr} {p0 p1 p2 pos pos' : Pos} {x self : Str} {i : Nat} {px : Pos} {v : V} {pins : List (Addr × Obj)} {σ : L2.St} {H : Hp} {s : Shared} (S : SupC P K mg F C f cc)
    (hks : F.scope.names.lookup ("super" : Str) = some .globalImplicit) (hkc : F.scope.names.lookup ("__class__" : Str) = some .free) (hk : F.scope.kind = .function)
    (hp : ∃ ar, (F.params.posonlyargs ++ F.params.args).head? = some ar ∧ ar.arg = self) (hline : (p2.endLine == pos.line) = true) (hself : F.scope.names.lookup self = some .local) (hN0 : N[0]? = some self) (hs0 : σ[0]? = some (some (.ref a)))
    (hx : PE (ncx CX P w K mg base N F f A outer s0 H0 E0) (.Name x px) (tVar i)) (hsx : σ[i]? = some (some v))
    (I : Inv (ncx CX P w K mg base N F f A outer s0 H0 E0) pins σ H s) (ea : H a = some (exo a C none)) :
    PySem.wpAt (model P w) (A.deeper (envF F f s0.heap.objs.size)) (.func F.body (envF F f s0.heap.objs.size)) (exec (.Expr (.Call (.Attribute (.Call (.Name "super" p0) [] [] p1) "__init__" p2) [.Name x px] [] pos) pos') (envF F f s0.heap.objs.size))
      (fun fl s' => fl = .next ∧ Inv (ncx CX P w K mg base N F f A outer s0 H0 E0) pins σ H s') (ncx CX P w K mg base N F f A outer s0 H0 E0).xe s := by
  obtain ⟨T, ⟨oc, od, doc, pm, ctv, sl, hf⟩, ⟨ccl, cdd, vs, ccs, file, tf, hcode, hvs, hfile⟩, hcl, ⟨k1, k2, k3, hcell⟩, hsub, hup, hve, hop, hns, htop⟩ := S
  obtain ⟨ar, hp1, hp2⟩ := hp
  obtain ⟨nm, q, N', bs, bm, sn, sub, ab, col, dd, c0, c1, c2, c3, c5, hC, hbm⟩ := T.cls
  have X := I.kIn
  obtain ⟨t1, ho⟩ := exo_at I.hok ea
  obtain ⟨m, hnm, hl⟩ := I.loc
  obtain ⟨u, ru, lk⟩ := hl 0 self (.ref a) hN0 hs0 (.inl hself)
  obtain rfl : u = Value.ref a := ru
  have hmself : m self = some (.ref a) := by
    rcases lk with ⟨_, h⟩ | ⟨h | h, _⟩
    · exact h
    · rw [show Env.kindOf (ncx CX P w K mg base N F f A outer s0 H0 E0).env self = some .local from hself] at h
      cases h
    · rw [show Env.kindOf (ncx CX P w K mg base N F f A outer s0 H0 E0).env self = some .local from hself] at h
      cases h
  obtain ⟨mb, b1, b2⟩ := I.mod.blt
  have hint : interactive (envF F f s0.heap.objs.size) = false := by
    unfold interactive
    rw [show (envF F f s0.heap.objs.size).scope.kind = .function from hk]
    rfl
  refine PySem.ks_wpAt_Expr_any ?_ hint rfl
  refine PySem.ks_wpAt_MethodCall (pl := do return (← importBound (.Call (.Name "super" p0) [] [] p1) (envF F f s0.heap.objs.size)).getD true) ?_ ?he
  case he =>
    have hm : methodCallPos true (.Call (.Name "super" p0) [] [] p1) (envF F f s0.heap.objs.size) p2 pos = pure pos := by
      unfold methodCallPos
      rw [hline]
      rfl
    show (do
      let ov ← attributeBase (.Call (.Name "super" p0) [] [] p1) "__init__" (envF F f s0.heap.objs.size) (eval (.Call (.Name "super" p0) [] [] p1) (envF F f s0.heap.objs.size))
      standAt p2.atName
      let (f', first) ← holding [ov] (calleeOf true (.Call (.Name "super" p0) [] [] p1) (envF F f s0.heap.objs.size) ov "__init__")
      let callPos ← methodCallPos true (.Call (.Name "super" p0) [] [] p1) (envF F f s0.heap.objs.size) p2 pos
      callWith callPos f' first (backTo pos (starEach [.Name x px] (envF F f s0.heap.objs.size))) []) = _
    rw [hm]
    rfl
  refine PySem.ks_wpAt_super_base (env := envF F f s0.heap.objs.size) hks hkc (by decide) rfl (X _ _ hf) rfl hp1 rfl (X _ _ hcode) rfl hvs hfile htop ?_
  refine PySem.W.ks_loadName_global hk hks (Calls.loadGlobal_builtin (I.mod.glob.keeps I.bk) hns (b1.keeps I.bk) ((b2 "super" (by decide)).trans (by first | boot_by_name | rfl | kernel_rfl)) ⟨rfl, ?_⟩)
  refine wpAny_loadName_free hk hkc (c := cc) (by rw [show (envF F f s0.heap.objs.size).cells = F.cl from rfl, hcl] <;> rfl) ⟨_, X _ _ hcell, rfl⟩ ?_
  rw [hp2]
  refine wpAny_loadName_local hk hself hnm hmself ?_
  have hCX := X _ _ hC
  have hcl' : PySem.W.clsIn K C = some { name := nm, bases := bs, mro := .ref C :: bm, ns := N', qualname := q, hasDict := true, slotNames := sn, subclasses := sub, abstract := ab, collection := col, hasDel := false } := by unfold PySem.W.clsIn; rw [hC] <;> rfl
  have hxC : a ≠ C := by
    rintro rfl
    rw [hCX] at ho
    have := congrArg Obj.data (Option.some.inj ho)
    cases this
  obtain ⟨hp, g, dr, tk, os⟩ := s
  refine PySem.ks_wpAny_isType_cls hCX rfl ⟨rfl, ?_⟩
  refine PySem.ks_wpAny_call_super hCX rfl ho rfl (fun c e => nomatch e) (PySem.W.looks_mroIn X hsub) (fun h1 e1 kp1 => ?_)
  have J1 : Inv (ncx CX P w K mg base N F f A outer s0 H0 E0) pins σ H ⟨h1, g, dr, tk, os⟩ := I.kept (t' := tk) kp1
  have ho1 := kp1 _ _ ho
  have inst : PySem.W.InstAt h1 a { cls := .ref C, dict := none, data := .fields #[.ref t1, .none, .none, .none, .bool false, .none] } C none := ⟨ho1, rfl, rfl, trivial⟩
  have X1 := J1.kIn
  refine PySem.W.kxs_getMethod PySem.W.kxs_ValueError e1 (PySem.W.looks_opaque X1 hop) (l₀ := .ref C :: bm) (fun A Q E s k q => wpAny_bind ((PySem.W.looks_clsIn X1 hcl') A _ E s k (wpAny_pure q))) rfl X1 (by
    have := hup
    unfold PySem.W.ks_superIn at this
    rw [hcl'] at this
    exact this) (inst.type.andThen (PySem.W.looks_subIn X1 hve)) hxC (by decide) ?_
  have kp2 : ∀ b o, h1.get? b = some o → (h1.push (PySem.W.kxs_mw "ValueError.__init__" a)).get? b = some o := fun b o e => Heap.get?_push_of_some _ e
  have J2 : Inv (ncx CX P w K mg base N F f A outer s0 H0 E0) pins σ H ⟨h1.push (PySem.W.kxs_mw "ValueError.__init__" a), g, dr, tk + 1, os⟩ := J1.kept (t' := tk + 1) kp2
  have hu : (h1.push (PySem.W.kxs_mw "ValueError.__init__" a)).get? h1.objs.size = some (PySem.W.kxs_mw "ValueError.__init__" a) := Heap.get?_push_at rfl rfl
  have J3 : Inv (ncx CX P w K mg base N F f A outer s0 H0 E0) ((h1.objs.size, PySem.W.kxs_mw "ValueError.__init__" a) :: pins) σ H ⟨h1.push (PySem.W.kxs_mw "ValueError.__init__" a), g, dr, tk + 1, os⟩ := J2.pins_of fun p hp => by
    rcases List.mem_cons.mp hp with rfl | hp
    · exact ⟨hu, J1.hok.fresh (Nat.le_refl _), Nat.ne_of_gt J1.lt, J1.nofs (Nat.le_refl _), fun v z => nomatch z⟩
    · exact J2.pin p (List.mem_append_right _ hp)
  refine PySem.W.kxs_callWith (i := "ValueError.__init__") (x := a) rfl (Calls.evalArgs_plain ?_)
  show wpAny _ _ (spliced (backTo pos (starEach [.Name x px] (ncx CX P w K mg base N F f A outer s0 H0 E0).env))) _ _ _
  have ha : PA (ncx CX P w K mg base N F f A outer s0 H0 E0) [.Name x px] (tCons (tVar i) tNil) := pa_cons hx pa_nil
  refine thn (ha.run pos _ _ σ H (fun vs H1 => vs = [v] ∧ H1 = H) J3 ⟨v, hsx, rfl, rfl⟩) fun us s1 hh => ?_
  obtain ⟨vs', H1, J4, r4, rfl, rfl⟩ := hh
  obtain ⟨uv, rfl, ruv⟩ := vals1 r4
  have hu4 := (J4.pin (h1.objs.size, PySem.W.kxs_mw "ValueError.__init__" a) (List.mem_append_right _ List.mem_cons_self)).1
  have J5 : Inv (ncx CX P w K mg base N F f A outer s0 H0 E0) pins σ H1 s1 := J4.pins_of fun p hp => J4.pin p (List.mem_append_right _ (List.mem_cons_of_mem _ hp))
  refine ⟨hu4, ?_⟩
  obtain ⟨t5, ho5⟩ := exo_at J5.hok ea
  obtain ⟨hp5, g5, dr5, tk5, os5⟩ := s1
  refine wpAny_call (codeAny_of_tree ?_)
  show wpAny _ _ (callAny (.ref h1.objs.size) ⟨[uv], []⟩) _ _ _
  simp only [callAny]
  refine wpAny_bind (wpAny_load hu4 ?_)
  simp only [PySem.W.kxs_mw, show (Value.type "method-wrapper" == Value.type "method" || Value.type "method-wrapper" == Value.type "builtin_function_or_method" || Value.type "method-wrapper" == Value.type "method-wrapper") = true by decide, if_true]
  refine PySem.W.KFB.if_so (by decide) ?_
  refine wpAny_bind (PySem.W.check_bound_init PySem.F.excBase_ValueError.toExcCallFacts (J5.kIn _ _ hC) ho5 rfl ?_)
  refine wpAny_bind (wpAny_pure (wpAny_pure ?_))
  refine ⟨plainId_quiet PySem.F.excBase_ValueError.init.plain _, codeAny_builtin PySem.F.excBase_ValueError.initEntry ?_⟩
  refine PySem.W.exc_init_tree (cls := .ref C) (t0 := t5) (dv := none) (c2 := .none) (c3 := .none) (b4 := .bool false) ho5 (by show 1 ≤ sizeLine; decide) (fun h6 kp6 e6 _ => ?_)
  have J6 := J5.write (t' := tk5) (x := a) (e := a) (o := exo a C none) (h' := h6) (by rw [ea]; exact True.intro) (.inl rfl) kp6 ⟨_, e6⟩ (exo_ok e6)
  have eu : upd H1 a (exo a C none) = H1 := by
    funext b
    by_cases hb : b = a
    · rw [hb, upd_same, ea]
    · rw [upd_ne hb]
  rw [eu] at J6
  exact ⟨trivial, J6⟩
/-- __init__ by its body: super().__init__(x), then the rest -/
theorem fn_super {cc C : Addr} {ps : List Str} {self x : Str} {i k : Nat} {px p0 p1 p2 pos pos' : Pos} {rest : List Stmt} {oc : Value} {od : Option Addr} {doc pm ctv : Value} {sl : Array (Option Value)} {sp : Sp}
    (S : SupC P K mg F C f cc) (ho : K.lookup f = some ⟨oc, od, .func (F.fd doc pm ctv), sl⟩) (hcd : PySem.W.codeIn K (.ref F.c) F.qual = true) (sc : NScope N ps ["__class__"] F.scope)
    (hbody : F.body = .Expr (.Call (.Attribute (.Call (.Name "super" p0) [] [] p1) "__init__" p2) [.Name x px] [] pos) pos' :: rest) (hline : (p2.endLine == pos.line) = true)
    (hks : F.scope.names.lookup ("super" : Str) = some .globalImplicit) (hp : ∃ ar, (F.params.posonlyargs ++ F.params.args).head? = some ar ∧ ar.arg = self) (hself : ps[0]? = some self) (hxi : ps[i]? = some x) (hxd : (x == ("__debug__" : Str)) = false) (hxc : (x == ("__classdict__" : Str)) = false)
    (len : ∀ vs H Q E, sp vs H Q E → vs.length = ps.length) (hsp : ∀ vs H Q E, sp vs H Q E → ∃ a, vs[0]? = some (.ref a) ∧ H a = some (exo a C none))
    (hrest : ∀ (A : Around) (outer : List Env) (s : Shared) (H : Hp) (vs : List V) (Q : VK) (E : XK), sp vs H Q E →
      ∃ t, PSs (ncx CX P w K mg base N F f A outer s H E) rest t ∧ t { nx := fun _ H' => Q .non H', rt := Q } (startF N vs [none]) H) :
    FnOk P w K mg base CX k f (F.fd doc pm ctv) ps sp := by
  refine ⟨len, fun A outer s H args us vs Q E hr e0 hb r hq => ?_⟩
  have hl := len _ _ _ _ hq
  have kin : K.In s.heap := e0.mod.kin.keeps fun b o e => (e0.bs b o e).1
  have lim : s.heap.NoLimit := e0.mod.nolimit.keeps fun b o e => (e0.bs b o e).1
  obtain ⟨k1, k2, k3, hcell⟩ := S.cell
  have hcl := S.cl
  have cells : CellsAt F.cl ["__class__"] [none] s.heap H := by
    refine ⟨rfl, fun y c e => ?_, fun y z c e1 e2 => ?_, fun j y e => ?_⟩
    · rw [hcl] at e
      have : c = cc := by
        simp only [List.lookup] at e
        split at e
        · exact (Option.some.inj e).symm
        · cases e
      subst this
      exact ⟨(e0.bs _ _ (e0.mod.kin _ _ hcell)).2, some (.ref C), ⟨_, kin _ _ hcell, rfl⟩⟩
    · rw [hcl] at e1 e2
      simp only [List.lookup] at e1 e2
      split at e1
      · rename_i h1
        split at e2
        · rename_i h2
          rw [beq_iff_eq] at h1 h2
          rw [h1, h2]
        · cases e2
      · cases e1
    · cases j with
      | zero =>
        have : y = "__class__" := (Option.some.inj e).symm
        subst this
        exact ⟨cc, by rw [hcl] <;> rfl, fun v e => by cases e⟩
      | succ j => simp at e
  refine PySem.ks_codeAny_call_defAt (fd := F.fd doc pm ctv) (body := F.body) (binds := ps.zip us) hr.depth (kin _ _ ho) rfl lim (PySem.W.codeRec_of kin hcd) rfl hb sc.nocell (fun ⟨n, _⟩ hy => sc.par n (List.of_mem_zip hy).1) (fun h₁ hns kp => ?_) sc.co sc.gen sc.kind
  have I : Inv (ncx CX P w K mg base N F f A outer s H E) [] (startF N vs [none]) H { s with heap := h₁, toks := s.toks + (ps.zip us).length } := inv_startN sc hr.hd e0 hl r cells hns kp
  obtain ⟨a, ha0, hea⟩ := hsp _ _ _ _ hq
  obtain ⟨t, ht, hqt⟩ := hrest A outer s H vs Q E hq
  have hpre : ∀ j y, ps[j]? = some y → N[j]? = some y := fun j y e => by
    have h1 := sc.pre
    have hj := (List.getElem?_eq_some_iff.mp e).1
    have : (N.take (ps.length + [("__class__" : Str)].length))[j]? = some y := by
      rw [h1, List.getElem?_append_left hj, e]
    rw [List.getElem?_take_of_lt (by omega)] at this
    exact this
  have hst : ∀ j v, vs[j]? = some v → (startF N vs [none])[j]? = some (some v) := fun j v e => by
    unfold startF
    rw [List.getElem?_append_left (by rw [List.length_map]; exact (List.getElem?_eq_some_iff.mp e).1), List.getElem?_map, e]
    rfl
  have hiv : i < vs.length := by rw [hl]; exact (List.getElem?_eq_some_iff.mp hxi).1
  have hxloc := sc.par x (List.mem_of_getElem? hxi)
  have hx : PE (ncx CX P w K mg base N F f A outer s H E) (.Name x px) (tVar i) := pe_var (hpre _ _ hxi) (.inl hxloc) hxd hxc
  show PySem.wpAt (model P w) (A.deeper (envF F f s.heap.objs.size)) (.func F.body (envF F f s.heap.objs.size)) (execs F.body (envF F f s.heap.objs.size)) _ _ _
  have es := exec_super (f := f) (A := A) (outer := outer) (CX := CX) (s0 := s) (H0 := H) (E0 := E) (p0 := p0) (p1 := p1) (p2 := p2) (pos := pos) (pos' := pos') S hks (sc.frk _ (by simp)) sc.kind hp hline (sc.par _ (List.mem_of_getElem? hself)) (hpre _ _ hself) (hst _ _ ha0) hx (hst _ _ (List.getElem?_eq_getElem hiv)) I hea
  have eb : execs F.body (envF F f s.heap.objs.size) = execs (.Expr (.Call (.Attribute (.Call (.Name "super" p0) [] [] p1) "__init__" p2) [.Name x px] [] pos) pos' :: rest) (envF F f s.heap.objs.size) := by rw [hbody]
  rw [eb]
  refine PySem.ks_wpAt_execs_cons (PySem.ks_wpAt_mono es (fun fl s1 hfl => ?_) fun _ _ z => z)
  obtain ⟨rfl, J⟩ := hfl
  refine wpAt_of_wpAny (wpAny_mono (ht.run [] _ _ H _ J hqt) (fun fl s' hs => ?_) fun _ _ z => z)
  have fin : ∀ {σ' : L2.St} {H' : Hp} {v : V} {u : Value}, Inv (ncx CX P w K mg base N F f A outer s H E) [] σ' H' s' → L2.RelV v u → Q v H' → CE outer P w H s Q u s' :=
    fun {σ' H' v u} J rv q => ⟨v, H', J.os, J.bare, J.base, J.hok, rv, q⟩
  cases fl with
  | ret u =>
    obtain ⟨v, σ', H', J, rv, q⟩ := hs
    exact fin J rv q
  | next =>
    obtain ⟨σ', H', J, q⟩ := hs
    exact fin (v := V.non) (u := Value.none) J rfl q
  | brk =>
    obtain ⟨_, _, _, q⟩ := hs
    exact False.elim q
  | cont =>
    obtain ⟨_, _, _, q⟩ := hs
    exact False.elim q
/-! ### self.f = x, one behind the other -/
def storesOf (self : Str) : List Stmt → Option (List (Str × Str))
  | [] => some []
  | .Assign [.Attribute (.Name s _) f _] (.Name x _) _ :: r => if s = self then (storesOf self r).map fun l => (f, x) :: l else none
  | _ => none
def tSt (K : PySem.W.Frag) : List (Str × Nat) → TS
  | [] => fun D σ H => D.nx σ H
  | (f, i) :: r => tSeq (tOst K f (tVar 0) (tVar i)) (tSt K r)
theorem pss_stores {X : Cx} {self : Str} (h0 : X.N[0]? = some self) (v0 : Vis X.env.scope self) (hd : ∀ x, Vis X.env.scope x → (x == ("__debug__" : Str)) = false ∧ (x == ("__classdict__" : Str)) = false) (hk : X.env.scope.kind = .function) :
    ∀ (sts : List Stmt) (fx : List (Str × Str)) (fi : List (Str × Nat)), storesOf self sts = some fx → fi.map (·.1) = fx.map (·.1) → (∀ (j : Nat) (p : Str × Str) (q : Str × Nat), fx[j]? = some p → fi[j]? = some q → X.N[q.2]? = some p.2 ∧ Vis X.env.scope p.2) → PSs X sts (tSt X.K fi)
  | [], fx, fi, e, e2, _ => by
    cases e
    cases fi with
    | nil => exact pss_nil
    | cons _ _ => simp at e2
  | st :: r, fx, fi, e, e2, h => by
    unfold storesOf at e
    split at e
    · rename_i h'
      cases h'
    · rename_i s ps f pf x px pos r' heq
      cases heq
      split at e
      · rename_i hs
        subst hs
        obtain ⟨l, hl, rfl⟩ := Option.map_eq_some_iff.mp e
        cases fi with
        | nil => simp at e2
        | cons q fi =>
          obtain ⟨f', i⟩ := q
          simp only [List.map_cons, List.cons.injEq] at e2
          obtain ⟨rfl, e2⟩ := e2
          obtain ⟨hN, hv⟩ := h 0 _ _ rfl rfl
          refine pss_cons (ps_ost (pe_var h0 v0 (hd _ v0).1 (hd _ v0).2) (pe_var hN hv (hd _ hv).1 (hd _ hv).2)) (pss_stores h0 v0 hd hk r l fi hl e2 fun j p q h1 h2 => h (j + 1) p q (by simpa using h1) (by simpa using h2))
      · cases e
    · cases e
end
/-- the heap in the midst of the stores -/
def midH (H : Hp) (a C dx : Addr) (fs : List (Str × V)) : Hp := upd (upd H dx (exd dx fs)) a (exo a C (some dx))
theorem midH_a {H : Hp} {a C dx : Addr} {fs : List (Str × V)} : midH H a C dx fs a = some (exo a C (some dx)) := upd_same
theorem midH_d {H : Hp} {a C dx : Addr} {fs : List (Str × V)} (h : dx ≠ a) : midH H a C dx fs dx = some (exd dx fs) := by
  unfold midH
  rw [upd_ne h, upd_same]
theorem midH_upd {H : Hp} {a C dx : Addr} {fs gs : List (Str × V)} (h : dx ≠ a) : upd (midH H a C dx fs) dx (exd dx gs) = midH H a C dx gs := by
  funext b
  unfold midH
  by_cases hb : b = dx
  · subst hb
    rw [upd_same, upd_ne h, upd_same]
  · rw [upd_ne hb]
    by_cases ha : b = a
    · rw [ha, upd_same, upd_same]
    · rw [upd_ne ha, upd_ne ha, upd_ne hb, upd_ne hb]
/-- the values at places -/
def valsAt (vs : List V) (fi : List (Str × Nat)) : List (Str × V) := fi.map fun p => (p.1, vs.getD p.2 .non)
theorem stores_read {K : PySem.W.Frag} {H : Hp} {a C dx : Addr} (T : OexC K C) (hne : dx ≠ a) {vs : List V} {σ : L2.St} (h0 : σ[0]? = some (some (.ref a))) {D : Ends} :
    ∀ (fi : List (Str × Nat)) (acc : List (Str × V)), (∀ p ∈ fi, σ[p.2]? = some (some (vs.getD p.2 .non)) ∧ PySem.W.findIn K (.ref C) p.1 = some none) → acc.length + fi.length ≤ 900 → D.nx σ (midH H a C dx ((valsAt vs fi).reverse ++ acc)) → tSt K fi D σ (midH H a C dx acc)
  | [], acc, _, _, q => by simpa [tSt, valsAt] using q
  | (f, i) :: r, acc, h, hl, q => by
    have hi := h (f, i) List.mem_cons_self
    simp only [List.length_cons] at hl
    show tOst K f (tVar 0) (tVar i) _ σ _
    refine ⟨_, hi.1, .ref a, h0, a, C, rfl, T, hi.2, .inr ⟨dx, acc, midH_a, midH_d hne, by omega, ?_⟩⟩
    rw [midH_upd hne]
    refine stores_read T hne h0 r ((f, vs.getD i .non) :: acc) (fun p hp => h p (List.mem_cons_of_mem _ hp)) (by simp only [List.length_cons]; omega) ?_
    simpa [valsAt] using q
/-- what __init__ leaves of the exception at the first of its values -/
def spInit (K : PySem.W.Frag) (C : Addr) (n : Nat) (fi : List (Str × Nat)) : Sp := fun vs H Q _ => vs.length = n ∧ ∃ a, vs[0]? = some (.ref a) ∧ H a = some (exo a C none) ∧ ∀ dx, H dx = none → dx ≠ a → Q .non (midH H a C dx (valsAt vs fi).reverse)
section
variable {CX : CXT} {P : Program} {w : World} {K : PySem.W.Frag} {mg : Str → Option Value} {base : Heap} {N : List Str} {F : NF} {f : Addr}
theorem fn_init {cc C : Addr} {ps : List Str} {self x : Str} {i k : Nat} {px p0 p1 p2 pos pos' : Pos} {rest : List Stmt} {oc : Value} {od : Option Addr} {doc pm ctv : Value} {sl : Array (Option Value)} {fx : List (Str × Str)} {fi : List (Str × Nat)}
    (S : SupC P K mg F C f cc) (ho : K.lookup f = some ⟨oc, od, .func (F.fd doc pm ctv), sl⟩) (hcd : PySem.W.codeIn K (.ref F.c) F.qual = true) (sc : NScope N ps ["__class__"] F.scope)
    (hbody : F.body = .Expr (.Call (.Attribute (.Call (.Name "super" p0) [] [] p1) "__init__" p2) [.Name x px] [] pos) pos' :: rest) (hline : (p2.endLine == pos.line) = true)
    (hks : F.scope.names.lookup ("super" : Str) = some .globalImplicit) (hp : ∃ ar, (F.params.posonlyargs ++ F.params.args).head? = some ar ∧ ar.arg = self) (hself : ps[0]? = some self) (hxi : ps[i]? = some x)
    (hdb : ∀ y, Vis F.scope y → (y == ("__debug__" : Str)) = false ∧ (y == ("__classdict__" : Str)) = false)
    (hst : storesOf self rest = some fx) (hfx : fi.map (·.1) = fx.map (·.1)) (hps : ∀ (j : Nat) (p : Str × Str) (q : Str × Nat), fx[j]? = some p → fi[j]? = some q → ps[q.2]? = some p.2) (hfi : ∀ p ∈ fi, p.2 < ps.length ∧ PySem.W.findIn K (.ref C) p.1 = some none) (hne : fi ≠ []) (hfl : fi.length ≤ 100) :
    FnOk P w K mg base CX k f (F.fd doc pm ctv) ps (spInit K C ps.length fi) := by
  have hxloc := sc.par x (List.mem_of_getElem? hxi)
  have hpre : ∀ j y, ps[j]? = some y → N[j]? = some y := fun j y e => by
    have h1 := sc.pre
    have hj := (List.getElem?_eq_some_iff.mp e).1
    have : (N.take (ps.length + [("__class__" : Str)].length))[j]? = some y := by
      rw [h1, List.getElem?_append_left hj, e]
    rw [List.getElem?_take_of_lt (by omega)] at this
    exact this
  refine fn_super S ho hcd sc hbody hline hks hp hself hxi (hdb _ (.inl hxloc)).1 (hdb _ (.inl hxloc)).2 (fun vs H Q E h => h.1) (fun vs H Q E h => let ⟨a, h1, h2, _⟩ := h.2; ⟨a, h1, h2⟩) fun A outer s H vs Q E hq => ?_
  obtain ⟨hl, a, h0, ha, q⟩ := hq
  have hv : ∀ j v, vs[j]? = some v → (startF N vs [none])[j]? = some (some v) := fun j v e => by
    unfold startF
    rw [List.getElem?_append_left (by rw [List.length_map]; exact (List.getElem?_eq_some_iff.mp e).1), List.getElem?_map, e]
    rfl
  refine ⟨tSt K fi, pss_stores (hpre _ _ hself) (.inl (sc.par _ (List.mem_of_getElem? hself))) hdb sc.kind rest fx fi hst hfx (fun j p q h1 h2 => ⟨hpre _ _ (hps j p q h1 h2), .inl (sc.par _ (List.mem_of_getElem? (hps j p q h1 h2)))⟩), ?_⟩
  cases fi with
  | nil => exact absurd rfl hne
  | cons p r =>
    obtain ⟨f1, i1⟩ := p
    have vi : ∀ p ∈ (f1, i1) :: r, (startF N vs [none])[p.2]? = some (some (vs.getD p.2 .non)) := fun p hp => by
      have := (hfi p hp).1
      refine hv _ _ ?_
      rw [List.getD_eq_getElem?_getD, List.getElem?_eq_getElem (by omega)]
      rfl
    show tOst K f1 (tVar 0) (tVar i1) _ (startF N vs [none]) H
    refine ⟨_, vi _ List.mem_cons_self, .ref a, hv _ _ h0, a, C, rfl, S.T, (hfi _ List.mem_cons_self).2, .inl ⟨ha, fun dx hdx hda => ?_⟩⟩
    simp only [List.length_cons] at hfl
    refine stores_read S.T hda (hv _ _ h0) r [(f1, vs.getD i1 .non)] (fun p hp => ⟨vi p (List.mem_cons_of_mem _ hp), (hfi p (List.mem_cons_of_mem _ hp)).2⟩) (by simp only [List.length_cons, List.length_nil]; omega) ?_
    have := q dx hdx hda
    simpa [valsAt] using this
theorem valsAt_tail {v u : V} {vs : List V} {fi : List (Str × Nat)} (h : ∀ p ∈ fi, 1 ≤ p.2) : valsAt (v :: vs) fi = valsAt (u :: vs) fi := by
  unfold valsAt
  refine List.map_congr_left fun p hp => ?_
  obtain ⟨j, hj⟩ : ∃ j, p.2 = j + 1 := ⟨p.2 - 1, by have := h p hp; omega⟩
  rw [hj]
  simp
/-- the class called -/
theorem pmk_way {X : Cx} {W : WX} {x : Str} {C fI : Addr} {k : Nat} {fd : FuncData} {ps : List Str} {fi : List (Str × Nat)} {e : Expr} {es : List Expr} {p pos : Pos} {ta : TA} (tk : Takes X W) (T : OexC X.K C) (iC : PySem.W.findIn X.K (.ref C) "__init__" = some (some (.ref fI))) (tI : PySem.W.typeIn X.K (.ref fI) = some (.type "function"))
    (F1 : FnOk X.prog X.w X.K X.mg X.base (L2.CX X.prog X.w) k fI fd ps (spInit X.K C ps.length fi)) (hr : Room (k + 1) X.A) (hb : Binds X.K fd ps []) (hg : Gl X x) (hm : X.mg x = some (.ref C)) (ha : PA X (e :: es) ta) (h1 : ∀ p ∈ fi, 1 ≤ p.2) (hmono : ∀ σ H Q Q', (∀ vs H1, Q vs H1 → Q' vs H1) → ta σ H Q → ta σ H Q')
    (hdb : (x == ("__debug__" : Str)) = false) (he : starEach (e :: es) X.env = (false, eval e X.env) :: starEach es X.env) (hpl : (backTo pos (starEach es X.env)).any (·.1) = false) :
    PMk X (.Call (.Name x p) (e :: es) [] pos) fun σ H Q => ta σ H fun vs H1 => vs.length ≤ 1000 ∧ vs.length + 1 = ps.length ∧ ∀ d, H1 d = none → Q (.ref C) (some d) (upd H1 d (.xd (valsAt (.non :: vs) fi).reverse)) := by
  intro pins s σ H Q I h
  refine pmk_oex (ds := []) (dvs := []) T iC tI F1 hr hb .nil (passes_call tk fun _ _ _ _ z => z.elim) hg hm ha hdb he hpl pins s σ H Q I ?_
  refine hmono σ H _ _ (fun vs H1 hv => ?_) h
  obtain ⟨hz, hl, q⟩ := hv
  refine ⟨hz, fun a hna => ⟨by simp; omega, a, rfl, upd_same, fun dx hdx hda => ⟨rfl, dx, _, midH_a, midH_d hda, ?_, ?_⟩⟩⟩
  · rwa [upd_ne hda] at hdx
  · have hd1 : H1 dx = none := by rwa [upd_ne hda] at hdx
    have e1 : upd (del (midH (upd H1 a (exo a C none)) a C dx (valsAt (.ref a :: (vs ++ [])) fi).reverse) a) dx (.xd (valsAt (.ref a :: (vs ++ [])) fi).reverse) = upd H1 dx (.xd (valsAt (.non :: vs) fi).reverse) := by
      funext b
      by_cases hbd : b = dx
      · rw [hbd, upd_same, upd_same, List.append_nil, valsAt_tail h1]
      · rw [upd_ne hbd, upd_ne hbd]
        by_cases hba : b = a
        · rw [hba, del_same, hna]
        · unfold midH
          rw [del_ne hba, upd_ne hba, upd_ne hbd, upd_ne hba]
    rw [e1]
    exact q dx hd1
end
/-- what the text has of the own exception class x -/
def ExcAt (P : Program) (w : World) (K : PySem.W.Frag) (mg : Str → Option Value) (base : Heap) (x : Str) (r : ExcR) : Prop :=
  ∃ (C fI : Addr) (fd : FuncData) (ps : List Str), mg x = some (.ref C) ∧ OexC K C ∧ ExcC K C ∧ PySem.W.findIn K (.ref C) "__init__" = some (some (.ref fI)) ∧ PySem.W.typeIn K (.ref fI) = some (.type "function") ∧
    FnOk P w K mg base (L2.CX P w) 0 fI fd ps (spInit K C ps.length r.fi) ∧ Binds K fd ps [] ∧ ps.length = r.n ∧ (∀ p ∈ r.fi, 1 ≤ p.2 ∧ PySem.W.findIn K (.ref C) p.1 = some none) ∧ PySem.W.subIn K (.ref C) (.ref C) = some true ∧
    (∀ y b, r.isa.lookup y = some b → ∃ Cw, mg y = some (.ref Cw) ∧ PySem.W.kitOne K (.ref C) (.ref Cw) = some b ∧ (y == ("__debug__" : Str)) = false) ∧ (x == ("__debug__" : Str)) = false ∧ x ≠ "__name__"
end Bk

/-! BkOps2: comparisons, subscripts, slices, built-in functions, methods. -/
namespace Bk
open PySem PySem.Spec PyProof.Rows L2
section
variable {K : PySem.W.Frag} {mg : Str → Option Value} {α α' : Al} {F F' H H' : Hp} {h h' : Hs} {s : Sl} {σ : St} {E : XK}
theorem seqPy_of (w : Wd τ K α F H h) {d : D} {v : V} {xs : List D} {ps : List PyData} (r : RD K α F d v) (e : d.own h = some xs) (ep : D.pys xs = some ps) : Dp K H v (.list ps) := by
  obtain ⟨a, vs, rfl, f, q⟩ := own_of w r e
  exact .lst (.of f) (pys_of w q ep)
section
variable {X : Cx} {pins : List (Addr × Obj)} {sh : Shared} {v u : Value} {x y : V} {d e : D} {b : Bool} {Q : VK}
theorem inData (hu : X.A.units + 65 < cLine) (I : Inv X pins σ H sh) (rx : RelV x v) (ry : RelV y u) {p : PyData} {qs : List PyData} (hp : Dp X.K H x p) (hq : Dp X.K H y (.list qs) ∨ Dp X.K H y (.tuple qs))
    (s1 : SeqAt.shaped p = true) (s2 : PyData.canLayAll0 qs = true) :
    (Q (.bl (qs.any fun z => PyData.eqv z p)) H → wpAny (model X.prog X.w) X.A (compareOp .In v u) (EP X pins σ Q) X.xe sh) ∧
    (Q (.bl (!qs.any fun z => PyData.eqv z p)) H → wpAny (model X.prog X.w) X.A (compareOp .NotIn v u) (EP X pins σ Q) X.xe sh) := by
  obtain ⟨as, r1⟩ := Dp.reads I p x v hp rx
  rcases hq with hq | hq
  · obtain ⟨bs, r2⟩ := Dp.reads I (.list qs) y u hq ry
    exact ⟨fun q => SeqAt.in_list_reads r2 r1 s2 (SeqAt.canLay_of_shaped s1) (room_in_shaped s1 hu) ⟨.bl _, H, I, rfl, q⟩,
      fun q => SeqAt.notIn_list_reads r2 r1 s2 (SeqAt.canLay_of_shaped s1) (room_in_shaped s1 hu) ⟨.bl _, H, I, rfl, q⟩⟩
  · obtain ⟨bs, r2⟩ := Dp.reads I (.tuple qs) y u hq ry
    exact ⟨fun q => SeqAt.in_tuple_reads r2 r1 s2 (SeqAt.canLay_of_shaped s1) (room_in_shaped s1 hu) ⟨.bl _, H, I, rfl, q⟩,
      fun q => SeqAt.notIn_tuple_reads r2 r1 s2 (SeqAt.canLay_of_shaped s1) (room_in_shaped s1 hu) ⟨.bl _, H, I, rfl, q⟩⟩
theorem dinD_ok (hu : X.A.units + 65 < cLine) (w : Wd τ X.K α F H h) (I : Inv X pins σ H sh) (rx : RelV x v) (ry : RelV y u) (r1 : RD X.K α F d x) (r2 : RD X.K α F e y) (q : dinD d e h = some b) :
    (Q (.bl b) H → wpAny (model X.prog X.w) X.A (compareOp .In v u) (EP X pins σ Q) X.xe sh) ∧
    (Q (.bl (!b)) H → wpAny (model X.prog X.w) X.A (compareOp .NotIn v u) (EP X pins σ Q) X.xe sh) := by
  unfold dinD at q
  split at q
  · rename_i l k o he
    obtain ⟨z, hz, rfl⟩ := Option.map_eq_some_iff.mp q
    obtain ⟨a, uo, rfl, hg, nd, ga, hF, hH, ro, hk⟩ := dcAt_live w r2 he
    obtain rfl : u = Value.ref a := ry
    have hu1 : X.A.units + 1 < cLine := by omega
    rcases hk with ⟨kvs, rfl⟩ | ⟨kvs, rfl⟩
    · obtain ⟨ky, e1, e2⟩ := Option.map_eq_some_iff.mp (show (keyK d).map (vAt kvs) = some z from hz)
      have ex := keyK_ok r1 e1
      subst ex
      cases ro with
      | @dk _ ws rv =>
        have hs : z.isSome = (valV ws ky).isSome := by
          rw [← e2]
          rcases dvs_val rv ky with ⟨_, _, f1, f2, _⟩ | ⟨f1, f2⟩ <;> rw [f1, f2] <;> rfl
        rw [hs]
        exact ⟨fun hq => d_in hu1 I (DGet.k hH) rx fun s' I' => ⟨.bl _, H, I', rfl, hq⟩, fun hq => d_notIn hu1 I (DGet.k hH) rx fun s' I' => ⟨.bl _, H, I', rfl, hq⟩⟩
    · obtain ⟨ky, e1, e2⟩ := Option.map_eq_some_iff.mp (show (keyT d).map (vAt kvs) = some z from hz)
      obtain ⟨bk, rfl, hb⟩ := keyT_ok r1 e1
      obtain rfl : v = Value.ref bk := rx
      cases ro with
      | @dt _ xs rv =>
        have hs : z.isSome = (atKey xs ky).isSome := by
          rw [← e2]
          rcases dts_val rv ky with ⟨_, _, _, f1, f2, _⟩ | ⟨f1, f2⟩ <;> rw [f1, f2] <;> rfl
        rw [hs]
        exact ⟨fun hq => dt_in hu1 I hH (dts_keys w.sub rv) (Same.seqT w.sub hb) fun s' I' => ⟨.bl _, H, I', rfl, hq⟩, fun hq => dt_notIn hu1 I hH (dts_keys w.sub rv) (Same.seqT w.sub hb) fun s' I' => ⟨.bl _, H, I', rfl, hq⟩⟩
  · cases q
theorem inD_ok (hK : X.K = K) (hu : X.A.units + 65 < cLine) (w : Wd τ K α F H h) (I : Inv X pins σ H sh) (rx : RelV x v) (ry : RelV y u)
    (r1 : RD K α F d x) (r2 : RD K α F e y) (q : inD d e h = some b) :
    (Q (.bl b) H → wpAny (model X.prog X.w) X.A (compareOp .In v u) (EP X pins σ Q) X.xe sh) ∧
    (Q (.bl (!b)) H → wpAny (model X.prog X.w) X.A (compareOp .NotIn v u) (EP X pins σ Q) X.xe sh) := by
  subst hK
  unfold inD at q
  split at q
  · cases r1; cases r2
    cases q
    exact ⟨fun hq => op_in_str pins sh σ H _ _ v u Q I rx ry ⟨_, _, rfl, rfl, hq⟩, fun hq => op_notin_str pins sh σ H _ _ v u Q I rx ry ⟨_, _, rfl, rfl, hq⟩⟩
  · split at q
    · rename_i p qs h1 h2
      split at q
      · rename_i hs
        cases q
        have hy : Dp X.K H y (.tuple qs) := py_of w r2 (by simp only [D.py, h2, Option.map_some])
        have := SeqAt.canLay_of_shaped hs.2
        exact inData hu I rx ry (now_of w r1 h1) (.inr hy) hs.1 (by simpa [PyData.canLay0] using this)
      · cases q
    · cases q
  · split at q
    · rename_i p qs h1 h2
      split at q
      · rename_i hs
        cases q
        obtain ⟨xs, h3, h4⟩ := Option.bind_eq_some_iff.mp h2
        have := SeqAt.canLay_of_shaped hs.2
        exact inData hu I rx ry (now_of w r1 h1) (.inl (seqPy_of w r2 h3 h4)) hs.1 (by simpa [PyData.canLay0] using this)
      · cases q
    · exact dinD_ok hu w I rx ry r1 r2 q
end
theorem ltA_ok {X : Cx} {pins : List (Addr × Obj)} {sh : Shared} {v u : Value} {x y : V} {d e : D} {b : Bool} (hK : X.K = K) (w : Wd τ K α F H h) (I : Inv X pins σ H sh) (rx : RelV x v) (ry : RelV y u)
    (r1 : RD K α F d x) (r2 : RD K α F e y) {f : PyData → PyData → Bool} (q : ltA f d e h = some b) :
    ∃ p1 p2 as bs, Reads sh.heap v p1 as ∧ Reads sh.heap u p2 bs ∧ PySem.W.alike p1 p2 = true ∧ p1 ≠ .none ∧ p1.depth ≤ 60 ∧ b = f p1 p2 := by
  subst hK
  unfold ltA at q
  split at q
  · rename_i p1 p2 h1 h2
    split at q
    · rename_i hc
      obtain ⟨c1, c2, c3⟩ := hc
      cases q
      obtain ⟨as, e1⟩ := Dp.reads I p1 x v (now_of w r1 h1) rx
      obtain ⟨bs, e2⟩ := Dp.reads I p2 y u (now_of w r2 h2) ry
      exact ⟨p1, p2, as, bs, e1, e2, c1, (fun e => by rw [e] at c2; cases c2), c3, rfl⟩
    · cases q
  · cases q
theorem op_cmpR {X : Cx} (hK : X.K = K) (hu : X.A.units + 65 < cLine) (op : CmpOp) : OpR X (compareOp op) (rD2 τ K mg (cmpR op)) := by
  subst hK
  intro pins s σ H x y v u Q I rx ry hq
  obtain ⟨E, α, F, h, d, e, w, r1, r2, p⟩ := hq
  unfold cmpR at p
  split at p
  · rename_i b hb
    have q : Q (.bl b) H := p.ok w (.bl b)
    clear p
    cases op with
    | Eq =>
      obtain ⟨p1, p2, d1, d2, s1, s2, e1⟩ := eqD_ok (X := X) rfl (by omega) w r1 r2 hb
      exact op_eqD (by omega) pins s σ H x y v u Q I rx ry ⟨p1, p2, d1, d2, s1, s2, by rw [e1]; exact q⟩
    | NotEq =>
      obtain ⟨c, hc, rfl⟩ := Option.map_eq_some_iff.mp hb
      obtain ⟨p1, p2, d1, d2, s1, s2, e1⟩ := eqD_ok (X := X) rfl (by omega) w r1 r2 hc
      exact op_neD (by omega) pins s σ H x y v u Q I rx ry ⟨p1, p2, d1, d2, s1, s2, by rw [e1]; exact q⟩
    | Is =>
      rcases isD_ok (X := X) r1 r2 hb with ⟨a, c, rfl, rfl, e1⟩ | ⟨rfl, e1⟩
      · exact op_isBl pins s σ H _ _ v u Q I rx ry ⟨a, c, rfl, rfl, by rw [e1]; exact q⟩
      · exact op_isN pins s σ H _ _ v u Q I rx ry ⟨rfl, by rw [e1]; exact q⟩
    | IsNot =>
      obtain ⟨c, hc, rfl⟩ := Option.map_eq_some_iff.mp hb
      rcases isD_ok (X := X) r1 r2 hc with ⟨a, c, rfl, rfl, e1⟩ | ⟨rfl, e1⟩
      · exact op_notBl pins s σ H _ _ v u Q I rx ry ⟨a, c, rfl, rfl, by rw [e1]; exact q⟩
      · exact op_notN pins s σ H _ _ v u Q I rx ry ⟨rfl, by rw [e1]; exact q⟩
    | In => exact (inD_ok rfl hu w I rx ry r1 r2 hb).1 q
    | NotIn =>
      obtain ⟨c, hc, rfl⟩ := Option.map_eq_some_iff.mp hb
      exact (inD_ok rfl hu w I rx ry r1 r2 hc).2 q
    | Lt =>
      simp only [cmpD] at hb
      split at hb
      · cases r1; cases r2; cases hb
        exact op_lt pins s σ H _ _ v u Q I rx ry ⟨_, _, rfl, rfl, q⟩
      · cases r1; cases r2; cases hb
        exact op_lt_str pins s σ H _ _ v u Q I rx ry ⟨_, _, rfl, rfl, q⟩
      · cases r1 with
        | tup f1 q1 => cases r2 with
          | tup f2 q2 =>
            split at hb
            · rename_i h1 h2
              cases hb
              have e1 := ints_of q1 h1
              have e2 := ints_of q2 h2
              subst e1 e2
              exact op_ltT (by omega) pins s σ H _ _ v u Q I rx ry ⟨_, _, _, _, rfl, rfl, Same.seqT w.sub f1, Same.seqT w.sub f2, q⟩
            · obtain ⟨p1, p2, as, bs, e1, e2, c1, c2, c3, rfl⟩ := ltA_ok (X := X) rfl w I rx ry (.tup f1 q1) (.tup f2 q2) hb
              exact PySem.W.lt_data e1 e2 c1 c2 (by omega) ⟨.bl _, H, I, rfl, q⟩
      · obtain ⟨p1, p2, as, bs, e1, e2, c1, c2, c3, rfl⟩ := ltA_ok (X := X) rfl w I rx ry r1 r2 hb
        exact PySem.W.lt_data e1 e2 c1 c2 (by omega) ⟨.bl _, H, I, rfl, q⟩
    | LtE =>
      simp only [cmpD] at hb
      split at hb
      · cases r1; cases r2; cases hb
        exact op_le pins s σ H _ _ v u Q I rx ry ⟨_, _, rfl, rfl, q⟩
      · obtain ⟨p1, p2, as, bs, e1, e2, c1, c2, c3, rfl⟩ := ltA_ok (X := X) rfl w I rx ry r1 r2 hb
        exact PySem.W.le_data e1 e2 c1 c2 (by omega) ⟨.bl _, H, I, rfl, q⟩
    | Gt =>
      simp only [cmpD] at hb
      split at hb
      · cases r1; cases r2; cases hb
        exact op_gt pins s σ H _ _ v u Q I rx ry ⟨_, _, rfl, rfl, q⟩
      · obtain ⟨p1, p2, as, bs, e1, e2, c1, c2, c3, rfl⟩ := ltA_ok (X := X) rfl w I rx ry r1 r2 hb
        exact PySem.W.gt_data e1 e2 c1 c2 (by omega) ⟨.bl _, H, I, rfl, q⟩
    | GtE =>
      simp only [cmpD] at hb
      split at hb
      · cases r1; cases r2; cases hb
        exact op_ge pins s σ H _ _ v u Q I rx ry ⟨_, _, rfl, rfl, q⟩
      · obtain ⟨p1, p2, as, bs, e1, e2, c1, c2, c3, rfl⟩ := ltA_ok (X := X) rfl w I rx ry r1 r2 hb
        exact PySem.W.ge_data e1 e2 c1 c2 (by omega) ⟨.bl _, H, I, rfl, q⟩
  · exact p.elim

/-! ### subscripts -/
theorem ix_D {X : Cx} (hK : X.K = K) : IxR X (rD2 τ K mg ixD) := by
  subst hK
  intro ve sl pins s σ H x y v u Q I rx ry hq hs
  obtain ⟨E, α, F, h, d, e, w, r1, r2, p⟩ := hq
  unfold ixD at p
  split at p
  · cases r2
    rename_i iy
    split at p
    · cases r1
      split at p
      · rename_i hz
        split at p
        · rename_i c hc
          exact ix_str ve sl pins s σ H _ _ v u Q I rx ry ⟨_, _, c, rfl, rfl, hz, hc, p.ok w (.str _)⟩ hs
        · exact p.elim
      · exact p.elim
    · split at p
      · rename_i z hz
        obtain ⟨xs, h1, h2⟩ := Option.bind_eq_some_iff.mp hz
        obtain ⟨a, vs, rfl, hsq, q⟩ := seq_of w r1 h1
        have hl := q.length
        obtain ⟨j, hj, hv⟩ := Option.bind_eq_some_iff.mp h2
        obtain ⟨x', e1, r'⟩ := q.get hv
        have hat : atI vs iy = some x' := by
          unfold atI
          rw [← hl, hj]
          exact e1
        rcases hsq with hsq | hsq
        · exact ix_list ve sl pins s σ H _ _ v u Q I rx ry ⟨_, _, _, _, rfl, rfl, hsq, hat, p.ok w r'⟩ hs
        · exact ix_tup ve sl pins s σ H _ _ v u Q I rx ry ⟨_, _, _, _, rfl, rfl, hsq, hat, p.ok w r'⟩ hs
      · exact p.elim
  · exact p.elim
theorem cut_of {xs : List D} {vs : List V} (q : RDs K α F xs vs) (lo hi : Option Int) : RDs K α F (cutD xs lo hi) (cutV vs lo hi) := by
  unfold cutD cutV
  rw [q.length]
  exact (q.drop _).take _
theorem cut_whole {xs : List D} {lo hi : Option Int} (h : HT.sIx xs.length 0 lo = 0 ∧ HT.sIx xs.length xs.length hi = xs.length) : cutD xs lo hi = xs := by
  unfold cutD
  rw [h.1, h.2]
  simp
theorem sl_D {X : Cx} (hK : X.K = K) (b : Bool) : SlR X (fun x lo hi H Q => ∃ E α F h d, Wd τ K α F H h ∧ RD K α F d x ∧ RP τ K mg E (RD K) α F H (slD b d lo hi h) Q) := by
  subst hK
  intro pins s σ H x v vl vu lo hi sl Q I rx hs pl pu hq
  obtain ⟨E, α, F, h, d, w, r1, p⟩ := hq
  unfold slD at p
  split at p
  · cases r1 with
    | tup f q =>
      refine sl_tupA pins s σ H _ v vl vu lo hi sl Q I rx hs pl pu ⟨_, _, rfl, Same.seqT w.sub f, fun hw => ?_, fun _ a ha => ?_⟩
      · rw [← q.length] at hw
        have e : cutD _ lo hi = _ := cut_whole hw
        rw [e] at p
        exact p.ok w (.tup f q)
      · obtain ⟨w', x', e'⟩ := w.newF ha (.tup (cutV _ lo hi))
        exact p _ _ _ _ x' w' (.tup (SqT.of e') (x'.rds (cut_of q lo hi)))
  · split at p
    · rename_i h1
      obtain ⟨a, vs, rfl, hsq, q⟩ := items_of w r1 h1
      obtain ⟨p1, p2⟩ := RP.mkL w (cut_of q lo hi) p
      exact sl_list pins s σ H _ v vl vu lo hi sl Q I rx hs pl pu ⟨_, _, rfl, hsq, p2⟩
    · exact p.elim
theorem set_D {X : Cx} (hK : X.K = K) : PSet X (fun o i v H Q => ∃ E α F h a b d, Wd τ K α F H h ∧ RD K α F a o ∧ RD K α F b i ∧ RD K α F d v ∧ RP τ K mg E (RD K) α F H (setD a b d h) (fun _ H' => Q H')) := by
  subst hK
  intro pins s σ H o i v ov iv u Q I r0 r1 r2 hq
  obtain ⟨E, α, F, h, a, b, d, w, q0, q1, q2, p⟩ := hq
  unfold setD at p
  split at p
  · cases q1
    rename_i l k n
    cases q0 with
    | loc g =>
      split at p
      · rename_i xs hx
        split at p
        · rename_i j hj
          obtain ⟨vs, e3, r⟩ := cur_live w g hx
          unfold wr at p
          split at p
          · rename_i hok
            obtain ⟨w', x'⟩ := w.write (cur_iff.mp hx) (fun z => by cases z) g (RO.lst (RDs.set q2 j r)) hok
            refine set_list pins s σ H _ _ _ ov iv u Q I r0 r1 r2 ⟨_, _, _, j, rfl, rfl, e3, by rw [← r.length]; exact hj, ?_⟩
            exact p _ _ _ .non x' w' .non
          · exact p.elim
        · exact p.elim
      · exact p.elim
  · exact p.elim
/-! dicts -/
theorem dix_ok {X : Cx} (hK : X.K = K) (hu : X.A.units + 65 < cLine) {pins : List (Addr × Obj)} {sh : Shared} {v u : Value} {x y : V} {d e : D} {Q : VK} (w : Wd τ K α F H h) (I : Inv X pins σ H sh) (rx : RelV x v) (ry : RelV y u) (r1 : RD K α F d x) (r2 : RD K α F e y)
    (p : RP τ K mg E (RD K) α F H (dixD d e h) Q) : (∃ a, v = .ref a ∧ sh.TypeIs (.ref a) "dict") ∧ wpAny (model X.prog X.w) X.A (getItem v u) (EP X pins σ Q) X.xe sh := by
  subst hK
  unfold dixD at p
  split at p
  · rename_i l k o he
    obtain ⟨a, uo, rfl, hg, nd, ga, hF, hH, ro, hk⟩ := dcAt_live w r1 he
    obtain rfl : v = Value.ref a := rx
    have hu1 : X.A.units + 1 < cLine := by omega
    split at p
    · rename_i r hz
      rcases hk with ⟨kvs, rfl⟩ | ⟨kvs, rfl⟩
      · obtain ⟨ky, e1, e2⟩ := Option.map_eq_some_iff.mp (show (keyK e).map (vAt kvs) = some (some r) from hz)
        have ex := keyK_ok r2 e1
        subst ex
        cases ro with
        | dk rv =>
          rcases dvs_val rv ky with ⟨d', v', f1, f2, f3⟩ | ⟨f1, _⟩
          · rw [f1] at e2; cases e2
            have g := DGet.k (k := ky) hH
            rw [f2] at g
            exact ⟨⟨a, rfl, dict_typeIs I g⟩, d_getItem hu1 I g ry fun w' s' I' rw' => ⟨v', H, I', rw', p.ok w f3⟩⟩
          · rw [f1] at e2; cases e2
      · obtain ⟨ky, e1, e2⟩ := Option.map_eq_some_iff.mp (show (keyT e).map (vAt kvs) = some (some r) from hz)
        obtain ⟨bk, rfl, hb⟩ := keyT_ok r2 e1
        obtain rfl : u = Value.ref bk := ry
        cases ro with
        | dt rv =>
          rcases dts_val rv ky with ⟨d', v', q, f1, f2, f3, f4⟩ | ⟨f1, _⟩
          · rw [f1] at e2; cases e2
            exact ⟨⟨a, rfl, dt_type I hH⟩, dt_getItem hu1 I hH (dts_keys w.sub rv) (Same.seqT w.sub hb) f2 fun s' I' => ⟨v', H, I', f4, p.ok w f3⟩⟩
          · rw [f1] at e2; cases e2
    · exact p.elim
  · exact p.elim
theorem dix_D {X : Cx} (hK : X.K = K) (hu : X.A.units + 65 < cLine) : IxR X (rD2 τ K mg dixD) := by
  intro value slice pins s σ H x y v u Q I rx ry hq hs
  obtain ⟨E, α, F, h, d, e, w, r1, r2, p⟩ := hq
  obtain ⟨⟨a, rfl, hT⟩, hg⟩ := dix_ok hK hu w I rx ry r1 r2 p
  unfold subscriptTail
  refine wpAny_bind ?_
  rw [getitemInPython_of_ne hT.not_modules]
  refine wpAny_bind (wpAny_specialOf hT PySem.F.slot_dict_getitem.lookup ?_)
  have fin : wpAny (model X.prog X.w) X.A (subscripted slice false (.ref a) u) (fun r s₃ => wpAny (model X.prog X.w) X.A (letTemporaryGo value (.ref a) r >>= fun _ => pure r) (EP X pins σ Q) X.xe s₃) X.xe s := by
    rw [hs]
    exact wpAny_operating (wpAny_mono hg (fun r s₃ h₃ => wpAny_bind (wpAny_letTemporaryGo (wpAny_pure h₃))) fun _ _ x => x)
  first
    | exact wpAny_pure (wpAny_bind fin)
    | exact wpAny_bind (wpAny_pure (wpAny_bind fin))
    | exact wpAny_bind fin
/-- a dict is written: what its object is then -/
theorem dcPut_ok {X : Cx} (hK : X.K = K) (hu : X.A.units + 65 < cLine) {pins : List (Addr × Obj)} {sh : Shared} {u r : Value} {y z : V} {d e : D} {a : Addr} {o o' : Ob} {uo : HO} {R : Hp → Prop} (w : Wd τ K α F H h) (I : Inv X pins σ H sh) (ry : RelV y u) (rz : RelV z r) (r2 : RD K α F d y) (r3 : RD K α F e z)
    (hH : H a = some uo) (ro : RO K α F a o uo) (hk : (∃ kvs, o = .dk kvs) ∨ ∃ kvs, o = .dt kvs) (hp : dcPut o d e = some o') (hq : ∀ u', RO K α F a o' u' → R (upd H a u')) :
    wpAny (model X.prog X.w) X.A (setItem (.ref a) u r) (fun _ s' => ∃ H', Inv X pins σ H' s' ∧ R H') X.xe sh := by
  subst hK
  have hu1 : X.A.units + 1 < cLine := by omega
  rcases hk with ⟨kvs, rfl⟩ | ⟨kvs, rfl⟩
  · have hp : (if kvs.length < sizeLine then (keyK d).map fun k => Ob.dk (vPut kvs k e) else none) = some o' := hp
    split at hp
    · rename_i hl
      obtain ⟨ky, e1, rfl⟩ := Option.map_eq_some_iff.mp hp
      have ex := keyK_ok r2 e1
      subst ex
      cases ro with
      | dk rv =>
        exact d_setItem hu1 I (DPut.k hH (by rw [← Paired.length rv]; exact hl)) ry rz fun s' I' => ⟨_, I', hq _ (.dk (dvs_put rv ky r3))⟩
    · cases hp
  · have hp : (if kvs.length < sizeLine then (keyT d).map fun k => Ob.dt (vPut kvs k e) else none) = some o' := hp
    split at hp
    · rename_i hl
      obtain ⟨ky, e1, rfl⟩ := Option.map_eq_some_iff.mp hp
      obtain ⟨bk, rfl, hb⟩ := keyT_ok r2 e1
      obtain rfl : u = Value.ref bk := ry
      cases ro with
      | dt rv =>
        exact dt_setItem hu1 I hH (dts_keys w.sub rv) (Same.seqT w.sub hb) (by rw [← Paired.length rv]; exact hl) fun s' I' => ⟨_, I', hq _ (.dt (dts_put rv ky hb r3 rz))⟩
    · cases hp
theorem set_Dc {X : Cx} (hK : X.K = K) (hu : X.A.units + 65 < cLine) : PSet X (fun o i v H Q => ∃ E α F h a b d, Wd τ K α F H h ∧ RD K α F a o ∧ RD K α F b i ∧ RD K α F d v ∧ RP τ K mg E (RD K) α F H (dsetD a b d h) (fun _ H' => Q H')) := by
  intro pins s σ H o i v ov iv u Q I r0 r1 r2 hq
  obtain ⟨E, α, F, h, a, b, d, w, q0, q1, q2, p⟩ := hq
  unfold dsetD at p
  split at p
  · rename_i l k ob he
    obtain ⟨ad, uo, rfl, hg, nd, ga, hF, hH, ro, hk⟩ := dcAt_live w q0 he
    obtain rfl : ov = Value.ref ad := r0
    split at p
    · rename_i o' hp
      unfold wr at p
      split at p
      · rename_i hok
        refine dcPut_ok hK hu w I r1 r2 q1 q2 hH ro hk hp fun u' ro' => ?_
        obtain ⟨w', x'⟩ := w.write hg nd ga ro' hok
        exact p _ _ _ .non x' w' .non
      · exact p.elim
    · exact p.elim
  · exact p.elim
end
end Bk

/-! BkSrt: sorted of alike data. -/
namespace Bk
open PySem PySem.Spec PyProof.Rows L2
theorem srtOk_of {ps : List PyData} (h : srtOk ps = true) : PySem.W.AllAlike ps ∧ PySem.W.Sortable ps ∧ (∀ p ∈ ps, p.depth ≤ 60) ∧ ps.length ≤ sizeLine := by
  unfold srtOk at h
  simp only [Bool.and_eq_true, Bool.or_eq_true, decide_eq_true_eq, List.all_eq_true] at h
  obtain ⟨⟨⟨h1, h2⟩, h3⟩, h4⟩ := h
  refine ⟨fun d hd d' hd' => h1 d hd d' hd', ?_, h3, h4⟩
  rcases h2 with h2 | h2
  · refine .inl fun d hd => ?_
    have := h2 d hd
    unfold isNeTup at this
    split at this
    · exact ⟨_, _, rfl⟩
    · cases this
  · refine .inr fun d hd => ?_
    have := h2 d hd
    unfold noTup at this
    split at this
    · cases this
    · cases this
    · rename_i a b
      exact ⟨a, b⟩
theorem dpAll_len {K : PySem.W.Frag} {H : Hp} : ∀ {xs : List V} {ds : List PyData}, DpAll K H xs ds → xs.length = ds.length
  | _, _, .nil => rfl
  | _, _, .cons _ h => by rw [List.length_cons, List.length_cons, dpAll_len h]
theorem zip_each {K : PySem.W.Frag} {X : Cx} {pins : List (Addr × Obj)} {σ : L2.St} {H : Hp} {s : Shared} (I : Inv X pins σ H s) : ∀ {xs : List V} {ds : List PyData} {us : List Value}, DpAll X.K H xs ds → Vals xs us →
    PySem.W.EachIs (fun v (b : V × PyData) => RelV b.1 v) us (xs.zip ds) ∧ PySem.W.EachIs (fun v (b : V × PyData) => ∃ as, Reads s.heap v b.2 as) us (xs.zip ds)
  | _, _, _, .nil, .nil => ⟨.nil, .nil⟩
  | _, _, _, .cons hd h, .cons r rs => ⟨.cons r (zip_each (K := K) I h rs).1, .cons (Dp.reads I _ _ _ hd r) (zip_each (K := K) I h rs).2⟩
theorem each_vals : ∀ {us : List Value} {bs : List (V × PyData)}, PySem.W.EachIs (fun v (b : V × PyData) => RelV b.1 v) us bs → Vals (bs.map (·.1)) us
  | _, _, .nil => .nil
  | _, _, .cons r h => .cons r (each_vals h)
theorem cr_sortedD {X : Cx} (hu : X.A.units + 64 < cLine) : CallR X (.builtin "sorted") (fun vs H Q => ∃ (a : Addr) (xs : List V) (ps : List PyData), vs = [V.ref a] ∧ SqL X.K H a xs ∧ DpAll X.K H xs ps ∧ srtOk ps = true ∧ ∀ p, H p = none → Q (.ref p) (upd H p (.lst (srtL xs ps)))) := by
  intro pins s σ H vs us Q I r h
  obtain ⟨a, xs, ps, rfl, hs, hd, hk, q⟩ := h
  obtain ⟨al, so, dp, ln⟩ := srtOk_of hk
  obtain ⟨its, rv, hl, hz⟩ := I.list hs
  obtain ⟨u, rfl, ru⟩ := vals1 r
  obtain rfl : u = Value.ref a := ru
  obtain ⟨e1, e2⟩ := zip_each (K := X.K) I hd rv
  have hlen := dpAll_len hd
  have hmap : (xs.zip ps).map (fun b : V × PyData => b.2) = ps := List.map_snd_zip (by omega)
  refine PySem.W.sorted_data (vs := its) (bs := xs.zip ps) (enc := fun b => b.2) hl.isList e1 e2 (by rw [hmap]; exact al) (by rw [hmap]; exact so) (by rw [List.length_zip]; omega) (fun b hb => ?_) fun out ho eo => ?_
  · have : b.2 ∈ ps := by rw [← hmap]; exact List.mem_map.mpr ⟨b, hb, rfl⟩
    have := dp _ this
    omega
  · obtain ⟨c, hc⟩ := sortedAll_at s.heap its out.toArray
    refine ⟨.ref (s.heap.objs.size + 1), upd H (s.heap.objs.size + 1) (.lst (srtL xs ps)), I.laid (t' := s.toks) (fun _ _ => sortedAll_old) (Nat.le_succ _) ⟨?_, out, c, each_vals eo, hc⟩, rfl, q _ (I.hok.fresh (Nat.le_succ _))⟩
    unfold srtL
    rw [List.length_map, List.length_mergeSort, List.length_zip]
    omega
/-- what stands for what is carried along -/
theorem srtL_map {α β : Type} (f : α → β) : ∀ (xs : List α) (ps : List PyData), srtL (xs.map f) ps = (srtL xs ps).map f := by
  intro xs ps
  unfold srtL
  rw [List.map_map]
  have : (xs.map f).zip ps = (xs.zip ps).map fun b => (f b.1, b.2) := by
    rw [List.zip_map_left]
    rfl
  rw [this, ← List.map_mergeSort (f := fun b : α × PyData => (f b.1, b.2)) (l := xs.zip ps) (r := PySem.W.dataLe false (fun x : α × PyData => x.2)) (s := PySem.W.dataLe false (fun x : β × PyData => x.2)) (fun a _ b _ => rfl), List.map_map]
  rfl
theorem mem_srtL {β : Type} {x : β} {xs : List β} {ps : List PyData} (h : x ∈ srtL xs ps) : x ∈ xs := by
  unfold srtL at h
  obtain ⟨b, hb, rfl⟩ := List.mem_map.mp h
  exact (List.of_mem_zip (List.mem_mergeSort.mp hb)).1
theorem zip_fst {K : PySem.W.Frag} {α : Al} {F : Hp} : ∀ {ds : List D} {vs : List V}, RDs K α F ds vs → ((ds.zip vs).map (·.1) = ds ∧ (ds.zip vs).map (·.2) = vs) ∧ ∀ b ∈ ds.zip vs, RD K α F b.1 b.2
  | _, _, .nil => ⟨⟨rfl, rfl⟩, fun b hb => by simp at hb⟩
  | _, _, .cons x r => by
    obtain ⟨⟨h1, h2⟩, h3⟩ := zip_fst r
    refine ⟨⟨by simp only [List.zip_cons_cons, List.map_cons, h1], by simp only [List.zip_cons_cons, List.map_cons, h2]⟩, fun b hb => ?_⟩
    rw [List.zip_cons_cons] at hb
    rcases List.mem_cons.mp hb with rfl | hb
    · exact x
    · exact h3 b hb
theorem rds_of {K : PySem.W.Frag} {α : Al} {F : Hp} : ∀ bs : List (D × V), (∀ b ∈ bs, RD K α F b.1 b.2) → RDs K α F (bs.map (·.1)) (bs.map (·.2))
  | [], _ => .nil
  | b :: bs, h => .cons (h b List.mem_cons_self) (rds_of bs fun x hx => h x (List.mem_cons_of_mem _ hx))
theorem RDs.srt {K : PySem.W.Frag} {α : Al} {F : Hp} {ds : List D} {vs : List V} (r : RDs K α F ds vs) (ps : List PyData) : RDs K α F (srtL ds ps) (srtL vs ps) := by
  obtain ⟨⟨h1, h2⟩, h3⟩ := zip_fst r
  have := rds_of (srtL (ds.zip vs) ps) fun b hb => h3 b (mem_srtL hb)
  rwa [← srtL_map, ← srtL_map, h1, h2] at this
/-! sorted(d): a dict whose keys are tuples of ints -/
def tupsI (xs : List EI) : List PyData := xs.map fun x => .tuple (x.1.map .int)
theorem dp_ints {K : PySem.W.Frag} {H : Hp} : ∀ ks : List Int, DpAll K H (ks.map V.int) (ks.map .int)
  | [] => .nil
  | k :: r => .cons (.int k) (dp_ints r)
theorem dp_keys {K : PySem.W.Frag} {H : Hp} : ∀ {xs : List EI}, KeysI K H xs → DpAll K H (xs.map fun x => V.ref x.2.1) (tupsI xs)
  | [], _ => .nil
  | x :: r, h => .cons (.tup (h x List.mem_cons_self) (dp_ints x.1)) (dp_keys fun y hy => h y (List.mem_cons_of_mem _ hy))
theorem vals_keys : ∀ xs : List EI, Vals (xs.map fun x => V.ref x.2.1) (xs.map fun x => Value.ref x.2.1)
  | [] => .nil
  | x :: r => .cons rfl (vals_keys r)
open PySem.W in
theorem sorted_dt {X : Cx} (hcalm : X.calm = true) (hu : X.A.units + 64 < cLine) {pins : List (Addr × Obj)} {s : Shared} {σ : L2.St} {H : Hp} {a : Addr} {xs : List EI} {Q : VK} (I : Inv X pins σ H s) (e : H a = some (DtO a xs)) (hk : KeysI X.K H xs) (hs : srtOk (tupsI xs) = true)
    (q : ∀ p, H p = none → Q (.ref p) (upd H p (.lst (srtL (xs.map fun x => V.ref x.2.1) (tupsI xs))))) : wpAny (model X.prog X.w) X.A (call (.builtin "sorted") [.ref a]) (EP X pins σ Q) X.xe s := by
  obtain ⟨al, so, dp, ln⟩ := srtOk_of hs
  obtain ⟨z1, z2, o, es, ep, e1, e2, e3, e4, e5⟩ := dtO_raw I e
  have hsz : es.size = xs.length := by rw [← Array.length_toList, e4, List.length_map]
  refine Calls.call_function_entry PyProof.Rows.kind_sorted PyProof.Rows.plain_sorted PyProof.Rows.entry_sorted (PyProof.Rows.args_sorted1 _) ?_
  unfold Builtin.«sorted»
  refine wpAny_bind (m := checkCount "sorted" 1 1 _) (wpAny_pure ?_)
  refine wpAny_bind (PySem.W.kdu_collect (A := X.A.in1) (KdlSrc.rawDict (es := es) (ep := ep) z2) (I.ok.hd hcalm) ⟨o, e1, e2, e3⟩ (by rw [hsz]; exact z1) fun h' tk acc hk' hacc => ?_)
  have hacc2 : acc.toList = xs.map fun x => Value.ref x.2.1 := by
    refine List.ext_getElem? fun j => ?_
    by_cases hj : j < xs.length
    · have hj2 : j < acc.size := by rw [hacc.1, hsz]; exact hj
      obtain ⟨hi, hv⟩ := hacc.2 j acc[j] (Array.getElem?_eq_getElem hj2)
      have h1 : es.toList[j]? = some (entI xs[j]) := by rw [e4, List.getElem?_map, List.getElem?_eq_getElem hj]; rfl
      have h2 : es[j] = entI xs[j] := by
        rw [Array.getElem?_toList, Array.getElem?_eq_getElem hi] at h1
        exact Option.some.inj h1
      rw [Array.getElem?_toList, Array.getElem?_eq_getElem hj2, List.getElem?_map, List.getElem?_eq_getElem hj, hv, h2]
      rfl
    · rw [List.getElem?_eq_none (by rw [Array.length_toList, hacc.1, hsz]; omega), List.getElem?_eq_none (by rw [List.length_map]; omega)]
  have I1 : Inv X pins σ H { s with heap := h', toks := tk } := I.kept hk'
  rw [hacc2]
  generalize hvs : (xs.map fun x => Value.ref x.2.1) = vs
  have hlv : vs.length = xs.length := by rw [← hvs, List.length_map]
  refine wpAny_bind (wpAny_newList ?_ (by rw [hlv]; exact z1))
  have hoL : (h'.push (seqObj "list" vs.toArray 0)).get? h'.objs.size = some (seqObj "list" vs.toArray 0) := Heap.get?_push_size _ rfl
  show wpAny _ _ _ _ _ { s with heap := h'.push (seqObj "list" vs.toArray 0), toks := tk }
  obtain ⟨r1, r2⟩ := zip_each (K := X.K) I1 (dp_keys hk) (vals_keys xs)
  rw [hvs] at r1 r2
  have hlen : (xs.map fun x => V.ref x.2.1).length = (tupsI xs).length := by unfold tupsI; rw [List.length_map, List.length_map]
  have hmap : ((xs.map fun x => V.ref x.2.1).zip (tupsI xs)).map (fun b : V × PyData => b.2) = tupsI xs := List.map_snd_zip (by omega)
  have old : ∀ b ob, h'.get? b = some ob → (sortingHeap (h'.push (seqObj "list" vs.toArray 0)) h'.objs.size vs).get? b = some ob := fun b ob hb => sortingHeap_old (Nat.ne_of_lt (Heap.lt_size hb)) (Heap.get?_push_of_some _ hb)
  have er' : EachIs (fun v (b : V × PyData) => ∃ as, Reads (sortingHeap (h'.push (seqObj "list" vs.toArray 0)) h'.objs.size vs) v b.2 as) vs ((xs.map fun x => V.ref x.2.1).zip (tupsI xs)) := r2.mono fun _ _ ⟨as, r⟩ => ⟨as, PyProof.Rows.Reads.keeps old r⟩
  have hbl : ((xs.map fun x => V.ref x.2.1).zip (tupsI xs)).length = xs.length := by rw [List.length_zip, ← hlen, List.length_map, Nat.min_self]
  refine wpAny_bind (wpAny_holding (wpAny_call_entry PyProof.Rows.slot_list_sort ⟨_, hoL, rfl⟩ PyProof.Rows.entry_list_sort
    (list_sort_vals (s := { s with heap := h'.push (seqObj "list" vs.toArray 0), toks := tk }) (κ := dataKind (sortingHeap (h'.push (seqObj "list" vs.toArray 0)) h'.objs.size vs) (((xs.map fun x => V.ref x.2.1).zip (tupsI xs)).map fun b : V × PyData => b.2)) hoL
      (SortsAt.data (s := { s with heap := sortingHeap (h'.push (seqObj "list" vs.toArray 0)) h'.objs.size vs, toks := tk }) (each_map (R := fun v d => ∃ as, Reads (sortingHeap (h'.push (seqObj "list" vs.toArray 0)) h'.objs.size vs) v d as) (fun b : V × PyData => b.2) er') (by rw [hmap]; exact al) (by rw [hmap]; exact so) (by
        intro d hd
        rw [hmap] at hd
        have := dp d hd
        show X.A.units + 1 + 1 + d.depth < cLine
        omega)) (by rw [hlv]; exact z1) ⟨.none, rfl, ?_⟩) (PyProof.Rows.args_list_sort _)))
  have eo := sortVals_data (h' := sortingHeap (h'.push (seqObj "list" vs.toArray 0)) h'.objs.size vs) (enc := fun b : V × PyData => b.2) false r1 er' (by rw [hmap]; exact al)
  generalize hout : sortVals (dataKind (sortingHeap (h'.push (seqObj "list" vs.toArray 0)) h'.objs.size vs) (((xs.map fun x => V.ref x.2.1).zip (tupsI xs)).map fun b : V × PyData => b.2)) false vs vs = out at eo
  obtain ⟨e', he'⟩ := PyProof.Rows.sortedHeap_at (vs := vs) (out := out.toArray) hoL
  refine wpAny_pure ⟨_, rfl, .ref h'.objs.size, upd H h'.objs.size (.lst (srtL (xs.map fun x => V.ref x.2.1) (tupsI xs))), I1.laid (t' := tk) (fun b u e => ?_) (Nat.le_refl _)
    (show ObjOk X.prog X.w _ _ _ (.lst _) from ⟨?_, out, e', each_vals eo, he'⟩), rfl, q _ (I1.hok.fresh (Nat.le_refl _))⟩
  · have hb : b < h'.objs.size := Heap.lt_size e
    rw [PyProof.Rows.sortedHeap_old (Nat.ne_of_lt hb) (by rw [size_push']; exact Nat.lt_succ_of_lt hb)]
    exact Heap.get?_push_of_some _ e
  · unfold srtL
    rw [List.length_map, List.length_mergeSort, hbl]
    exact z1
theorem dts_tups {K : PySem.W.Frag} {α : Al} {F : Hp} {kvs : List (List Int × D)} {xs : List EI} (r : DTs K α F kvs xs) : (kvs.map fun p => PyData.tuple (p.1.map .int)) = tupsI xs ∧ RDs K α F (kvs.map fun p => D.tup (p.1.map .int)) (xs.map fun x => V.ref x.2.1) := by
  induction r with
  | nil => exact ⟨rfl, .nil⟩
  | @cons p q ps qs h t ih =>
    obtain ⟨h1, h2, _⟩ := h
    refine ⟨?_, .cons (.tup h2 (RDs.ints _)) ih.2⟩
    show PyData.tuple (p.1.map .int) :: (ps.map _) = PyData.tuple (q.1.map .int) :: tupsI qs
    rw [ih.1, h1]
/-! lists of tuples of ints, in order -/
theorem leTup {β : Type} (x : β → List Int) : PySem.W.dataLe false (fun b => .tuple ((x b).map .int)) = fun p q => decide (x p ≤ x q) := by
  funext p q
  show (!PySem.W.dataLt (.tuple ((x q).map .int)) (.tuple ((x p).map .int))) = _
  rw [PySem.W.dataLt_tuple]
  have e := PySem.W.dataLt_ints (x q) (x p)
  by_cases h : x q < x p
  · have h' : ¬ x p ≤ x q := fun r => List.not_lt.mpr r h
    rw [decide_eq_true h] at e
    rw [decide_eq_false h']
    exact congrArg (!·) e
  · have h' : x p ≤ x q := List.not_lt.mp h
    rw [decide_eq_false h] at e
    rw [decide_eq_true h']
    exact congrArg (!·) e
theorem srtL_I (L : List (List Int)) : srtL (L.map encI) (L.map pyI) = (srtI L).map encI := by
  rw [srtL_map]
  congr 1
  unfold srtL srtI
  have : L.zip (L.map pyI) = L.map fun g => (g, pyI g) := by
    induction L with
    | nil => rfl
    | cons a r ih => simp [ih]
  rw [this, ← List.map_mergeSort (f := fun g : List Int => (g, pyI g)) (l := L) (r := PySem.W.dataLe false (fun g : List Int => pyI g)) (s := PySem.W.dataLe false (fun x : List Int × PyData => x.2)) (fun a _ b _ => rfl), List.map_map]
  have e : PySem.W.dataLe false (fun g : List Int => pyI g) = fun p q => decide (p ≤ q) := leTup (fun g => g)
  rw [e]
  have : ((fun x : List Int × PyData => x.1) ∘ fun g : List Int => (g, pyI g)) = id := rfl
  rw [this, List.map_id]
theorem srtI_perm (L : List (List Int)) : (srtI L).Perm L := List.mergeSort_perm ..
theorem srtI_sorted (L : List (List Int)) : (srtI L).Pairwise (· ≤ ·) := by
  refine (List.pairwise_mergeSort (le := fun p q : List Int => decide (p ≤ q)) (fun a b c h1 h2 => ?_) (fun a b => ?_) L).imp fun h => by simpa using h
  · simp at h1 h2 ⊢; exact List.le_trans h1 h2
  · simp; exact List.le_total a b
theorem srtI_of {A B : List (List Int)} (p : B.Perm A) (h : B.Pairwise (· ≤ ·)) : srtI A = B :=
  ((srtI_perm A).trans p.symm).eq_of_pairwise (fun x y _ _ h1 h2 => List.le_antisymm h1 h2) (srtI_sorted A) h
end Bk

/-! BkSet: sets of ints that are counted or sorted at once; sum, min, max of tuples. -/
namespace Bk
open PySem PySem.Spec PyProof.Rows L2
section
variable {P : Program} {w : World} {A : Around} {E : Value → Shared → Prop} {s : Shared}
/-- a set just made -/
abbrev fresh (w : World) : Obj := { cls := .type "set", dict := none, data := .set #[] 0 (.fresh 0 0 (!w.params.followText "set-order")) }
set_option maxHeartbeats 3200000 in
/-- set(xs), xs a list of ints -/
theorem set_of_list {l : Addr} {vs : Array Value} (js : List Int) {Q : Value → Shared → Prop} (nh : A.handled = none) (pl : s.heap.IsList l vs) (rv : IntsAre vs.toList js) (few : js.length + 1 < scanBound)
    (k : ∀ (hp : Heap) (tk n : Nat), SetR w hp s.heap.objs.size (fun j => decide (j ∈ js)) n → (∀ b o, s.heap.get? b = some o → hp.get? b = some o) → Q (.ref s.heap.objs.size) { s with heap := hp, toks := tk }) :
    wpAny (model P w) A (PySem.call (.type "set") [.ref l]) Q E s := by
  have len : vs.size = js.length := (Array.length_toList (xs := vs)).symm.trans rv.length
  obtain ⟨cc, tt, hmro⟩ := F.called_set.mro
  have f1 := F.called_set.made
  have f2 := F.called_set.sub
  refine wpAny_call (codeAny_of_tree ?_)
  show wpAny _ _ (callAny (.type "set") _) _ _ _
  refine wpAny_pure ⟨Code.quiet_builtin _ (by decide +kernel), codeAny_builtin F.entry_type_call ?_⟩
  rw [Around.under_plain (weight_type_call_type "set" [.ref l] []) rfl]
  have f3 := F.called_set.notType
  have f4 := F.called_set.canCreate
  have f5 := F.typeCall_set_1 (.ref l)
  repeat (any_goals (first | assumption | wp_step))
  refine codeAny_mono (code_set_led1 (.ref l) (E := E) (Q₁ := fun ob t => ob = .ref s.heap.objs.size ∧ t = { s with heap := s.heap.push (fresh w) }) ⟨rfl, rfl⟩) fun r t hr => ?_
  cases r with
  | error e => exact hr
  | ok fl =>
    cases fl with
    | ret ob =>
      obtain ⟨rfl, rfl⟩ := hr
      have at_ : (s.heap.push (fresh w)).get? s.heap.objs.size = some (fresh w) := Heap.get?_push_size _ rfl
      have ty : Shared.TypeIs { s with heap := s.heap.push (fresh w) } (.ref s.heap.objs.size) "set" := ⟨_, at_, rfl⟩
      have f6 := F.called_set.init.lookup
      have f7 := F.called_set.init.bind (.ref s.heap.objs.size)
      repeat (any_goals (first | assumption | wp_step))
      refine codeAny_mono (codeAny_call_builtin (R := wants (fun r t => r = .none ∧ ∃ hp tk n, t = { s with heap := hp, toks := tk } ∧ SetR w hp s.heap.objs.size (fun j => decide (j ∈ js)) n ∧ (∀ b o, s.heap.get? b = some o → hp.get? b = some o)) E) F.called_set.init.plain F.entry_set_init (check_set_init_1 ty ?_)) fun r2 t2 hr2 => ?_
      · obtain ⟨ol, ol1, ol2, nn, ol3⟩ := pl
        obtain ⟨c1, c2, c3, c4⟩ := ol
        simp only at ol2 ol3
        subst ol2; subst ol3
        have pl0 : (s.heap.push (fresh w)).get? l = some { cls := .type "list", dict := c2, data := .seq vs nn, slots := c4 } := Heap.get?_push_of_some _ ol1
        have f8 := F.sub_list_set
        have f9 := F.sub_list_frozenset
        have f10 : (Value.type "list" == Value.type "dict") = false := by decide
        have pl1 : (s.heap.push (fresh w)).IsList l vs := ⟨_, pl0, rfl, nn, rfl⟩
        unfold Builtin.«set.__init__» noKeywords Builtin.Frozenset.updateFrom
        generalize hy : pyIter = Y
        wp_walk
        subst hy
        refine wpAny_pyIter_list pl1 ?_
        refine wpAny_bind (wpAny_runValue ?_)
        have lt : l < s.heap.objs.size := Heap.lt_size ol1
        have nh3 : A.in1.in1.in1.handled = none := by simp [nh]
        have sz : (s.heap.push (fresh w)).objs.size = s.heap.objs.size + 1 := Heap.size_push ..
        have ne : l ≠ (s.heap.push (fresh w)).objs.size := by
          rw [sz]; exact Nat.ne_of_lt (Nat.lt_succ_of_lt lt)
        have out : s.heap.objs.size ∉ [(s.heap.push (fresh w)).objs.size, l] := by
          rw [sz]
          intro z
          rcases List.mem_cons.mp z with z | z
          · exact absurd z (Nat.ne_of_lt (Nat.lt_succ_self _))
          · exact absurd (List.mem_singleton.mp z) (Nat.ne_of_gt lt)
        have each : ∀ (i : Nat) (v : Value), vs[i]? = some v → ∃ m t, js[i]? = some m ∧ v = .int m t := fun i v hv => by
          have hi : i < js.length := by rw [← len]; exact (Array.getElem?_eq_some_iff.mp hv).1
          obtain ⟨t, e⟩ := PyProof.Rows.IntsAre.int_at rv i v (by rw [Array.getElem?_toList]; exact hv)
          rw [List.getD_eq_getElem?_getD, List.getElem?_eq_getElem hi] at e
          exact ⟨_, t, List.getElem?_eq_getElem hi, e⟩
        refine set_update_ints ((Walks.list nh3 _ l ne vs).toS) s.heap.objs.size out js len few each (vs.size - 0) 0 _ (by omega) (Nat.zero_le _) ⟨⟨_, Heap.get?_push_size _ rfl, rfl, rfl⟩, (pl1.push _)⟩ ?first ?last
        case first => exact ⟨0, Nat.le_refl 0, setR_new_at (Heap.get?_push_of_some _ at_)⟩
        case last =>
          intro t n mv _ hn
          obtain ⟨hp, g2, d2, tk, o2⟩ := t
          obtain rfl : g2 = s.gens := mv.gens
          obtain rfl : d2 = s.drawn := mv.drawn
          obtain rfl : o2 = s.os := mv.os
          show wpAny _ _ _ _ _ _
          refine wpAny_pure ?_
          show wpAny _ _ (ret Value.none) _ _ _
          refine wpAny_pure ⟨rfl, hp, tk, n, rfl, hn, fun b o e => ?_⟩
          have b0 : b < s.heap.objs.size := Heap.lt_size e
          refine mv.heap b o (fun z => ?_) (Heap.get?_push_of_some _ (Heap.get?_push_of_some _ e))
          rcases List.mem_cons.mp z with z | z
          · exact absurd z (Nat.ne_of_lt b0)
          · have z := List.mem_singleton.mp z
            rw [sz] at z
            exact absurd z (Nat.ne_of_lt (Nat.lt_succ_of_lt b0))
      · cases r2 with
        | error e => exact hr2
        | ok fl2 =>
          cases fl2 with
          | ret r =>
            obtain ⟨rfl, hp, tk, n, rfl, hn, kk⟩ := hr2
            repeat (any_goals (first | assumption | wp_step))
            exact k _ _ _ hn kk
          | _ => exact hr2.elim
    | _ => exact hr.elim
end
end Bk

/-! BkBl2: sum, min, max of tuples; min, max of data. -/
namespace Bk
open PySem PySem.Spec PyProof.Rows L2
/-! ### sum, min, max of tuples; min, max of data -/
section
variable {X : Cx}
theorem vals_dpAll {pins : List (Addr × Obj)} {σ : L2.St} {H : Hp} {s : Shared} (I : Inv X pins σ H s) : ∀ {xs : List V} {ds : List PyData} {us : List Value}, DpAll X.K H xs ds → Vals xs us → ∃ as, ReadsAll s.heap us ds as
  | _, _, _, .nil, .nil => ⟨[], .nil⟩
  | _, _, _, .cons hd h, .cons r rs => by
    obtain ⟨as, h1⟩ := Dp.reads I _ _ _ hd r
    obtain ⟨bs, h2⟩ := vals_dpAll I h rs
    exact ⟨_, .cons h1 h2⟩
def rSumT (K : PySem.W.Frag) : List V → Hp → VK → Prop := fun vs H Q => ∃ (a : Addr) (ns : List Int), vs = [V.ref a] ∧ SqT K H a (ns.map V.int) ∧ Q (.int ns.sum) H
theorem cr_sumT (hc : X.calm = true) : CallR X (.builtin "sum") (rSumT X.K) := by
  intro pins s σ H vs us Q I r h
  obtain ⟨a, ns, rfl, hs, q⟩ := h
  obtain ⟨its, rv, pl, _⟩ := I.tuple hs
  have pl : s.heap.IsTuple a its.toArray := pl
  have lt : a < s.heap.objs.size := by obtain ⟨o, ho, _⟩ := pl; exact Heap.lt_size ho
  rw [Vals.ref1 r]
  have hi := rv.ints
  have hl : its.length = ns.length := hi.length
  refine call_sum_walkG (wpAny_pyIter_tuple pl ⟨_, _, _, _, _, _, fun i => ns.getD i 0, rfl, Walks.tuple (A := X.A.in1) (I.ok.hd hc) _ a (Nat.ne_of_lt lt) its.toArray, ⟨⟨_, Heap.get?_push_size _ rfl, rfl, rfl⟩, pl.push _⟩, fun b hb => ?_, fun i v hv => ?_, fun h' tk t' hk => ?_⟩)
  · have e' : b = s.heap.objs.size ∨ b = a := by simpa using hb
    show b < (s.heap.push _).objs.size
    rw [Heap.size_push]
    rcases e' with e' | e'
    · rw [e']; exact Nat.lt_succ_self _
    · rw [e']; exact Nat.lt_succ_of_lt lt
  · obtain ⟨t, e⟩ := PyProof.Rows.IntsAre.int_at hi i v (by simpa using hv)
    exact ⟨t, e⟩
  · refine ⟨.int ns.sum, H, I.kept (t' := tk) fun b o e => hk b o (fun z => ?_) (Heap.get?_push_of_some _ e), ⟨t', ?_⟩, q⟩
    · have : b = s.heap.objs.size := by simpa using z
      rw [this] at e
      exact Nat.lt_irrefl _ (Heap.lt_size e)
    · have key : ∀ n, n ≤ ns.length → preSum (fun i => ns.getD i 0) n = (ns.take n).sum := by
        intro n
        induction n with
        | zero => intro _; simp [preSum]
        | succ n ih =>
          intro hn
          rw [List.take_succ, List.sum_append, ← ih (by omega), List.getElem?_eq_getElem hn]
          simp [preSum, List.getD, List.getElem?_eq_getElem hn]
      have := key ns.length (Nat.le_refl _)
      rw [List.take_length] at this
      rw [List.size_toArray, hl, this]
def rBest (K : PySem.W.Frag) (mx : Bool) : List V → Hp → VK → Prop := fun vs H Q => ∃ (a : Addr) (xs : List V) (p : PyData) (ps : List PyData), vs = [V.ref a] ∧ (SqL K H a xs ∨ SqT K H a xs) ∧ DpAll K H xs (p :: ps) ∧ (∀ x ∈ p :: ps, ∀ y ∈ p :: ps, PySem.W.alike x y = true) ∧ (∀ x ∈ p :: ps, x ≠ .none) ∧ PyData.depthAll (p :: ps) ≤ 60 ∧
  ∀ (i : Nat) x, xs[i]? = some x → (p :: ps)[i]? = some (best mx p ps) → Q x H
theorem fold_mem (f : PyData → PyData → Bool) : ∀ (ps : List PyData) (p : PyData), ps.foldl (fun a y => if f a y then y else a) p ∈ p :: ps
  | [], p => by simp
  | x :: r, p => by
    have := fold_mem f r (if f p x then x else p)
    rw [List.foldl_cons]
    rcases List.mem_cons.mp this with e | e
    · rw [e]
      split <;> simp
    · exact List.mem_cons_of_mem _ (List.mem_cons_of_mem _ e)
theorem best_mem (mx : Bool) (p : PyData) (ps : List PyData) : best mx p ps ∈ p :: ps := by
  unfold best
  split
  · exact fold_mem (fun a y => PySem.W.dataLt a y) ps p
  · exact fold_mem (fun a y => PySem.W.dataLt y a) ps p
theorem cr_best (hc : X.calm = true) (hu : X.A.units + 64 < cLine) (mx : Bool) : CallR X (.builtin (if mx then "max" else "min")) (rBest X.K mx) := by
  intro pins s σ H vs us Q I r h
  obtain ⟨a, xs, p, ps, rfl, hs, hd, al, nn, dp, q⟩ := h
  rw [Vals.ref1 r]
  have fin : ∀ {its : List Value} (rv : Vals xs its) (i : Nat) (v : Value) (h' : Heap) (tk : Nat) (bs : List Addr), its[i]? = some v → Reads h' v (best mx p ps) bs → (∀ b o, s.heap.get? b = some o → h'.get? b = some o) → ∃ y H2, Inv X pins σ H2 { s with heap := h', toks := tk } ∧ RelV y v ∧ Q y H2 := by
    intro its rv i v h' tk bs hv hb hk
    have I2 : Inv X pins σ H { s with heap := h', toks := tk } := I.kept hk
    have hi : i < its.length := (List.getElem?_eq_some_iff.mp hv).1
    have hx : i < xs.length := by rw [rv.length]; exact hi
    have hp : i < (p :: ps).length := by rw [← dpAll_len hd]; exact hx
    obtain ⟨u, e2, rx⟩ := rv.get (List.getElem?_eq_getElem hx)
    rw [hv] at e2
    cases e2
    obtain ⟨as, ra⟩ := vals_dpAll I2 hd rv
    have get1 : ∃ as, Reads h' v (p :: ps)[i] as := by
      have key : ∀ {us : List Value} {ds : List PyData} {as : List Addr}, ReadsAll h' us ds as → ∀ (i : Nat) (v : Value) (hi : i < ds.length), us[i]? = some v → ∃ as, Reads h' v ds[i] as := by
        intro us ds as rr
        induction us generalizing ds as with
        | nil => intro i v hi z; simp at z
        | cons u r ih =>
          cases rr with
          | cons r1 r2 =>
            intro i v hi z
            cases i with
            | zero => simp at z; subst z; exact ⟨_, r1⟩
            | succ i => exact ih r2 i v (by simpa using hi) (by simpa using z)
      exact key ra i v hp hv
    obtain ⟨cs, r1⟩ := get1
    have e := PySem.W.alike_unique _ _ v cs bs (al _ (List.getElem_mem hp) _ (best_mem mx p ps)) r1 hb
    refine ⟨_, H, I2, rx, q i _ (List.getElem?_eq_getElem hx) ?_⟩
    rw [List.getElem?_eq_getElem hp, e]
  have hu' : X.A.units + 1 + PyData.depthAll (p :: ps) < cLine := by omega
  rcases hs with hs | hs
  · obtain ⟨its, rv, pl, _⟩ := I.list hs
    obtain ⟨as, ra⟩ := vals_dpAll I hd rv
    cases mx with
    | true => exact PySem.W.max_list_data (vs := its.toArray) (I.ok.hd hc) pl.isList ra ⟨al, nn⟩ hu' fun i v h' tk bs hv hb hk => fin rv i v h' tk bs (by simpa using hv) hb hk
    | false => exact PySem.W.min_list_data (vs := its.toArray) (I.ok.hd hc) pl.isList ra ⟨al, nn⟩ hu' fun i v h' tk bs hv hb hk => fin rv i v h' tk bs (by simpa using hv) hb hk
  · obtain ⟨its, rv, pl, _⟩ := I.tuple hs
    have pl : s.heap.IsTuple a its.toArray := pl
    obtain ⟨as, ra⟩ := vals_dpAll I hd rv
    cases mx with
    | true => exact PySem.W.max_tuple_data (vs := its.toArray) (I.ok.hd hc) pl ra ⟨al, nn⟩ hu' fun i v h' tk bs hv hb hk => fin rv i v h' tk bs (by simpa using hv) hb hk
    | false => exact PySem.W.min_tuple_data (vs := its.toArray) (I.ok.hd hc) pl ra ⟨al, nn⟩ hu' fun i v h' tk bs hv hb hk => fin rv i v h' tk bs (by simpa using hv) hb hk
end
end Bk

/-! BkBlt: built-in functions. -/
namespace Bk
open PySem PySem.Spec PyProof.Rows L2
theorem isTy_ok {t T : String} {b : Bool} (e : isTy t T = some b) : kitB t T = some b := by
  unfold isTy at e
  split at e
  · rename_i hc
    rw [Bool.and_eq_true, List.contains_iff_mem, List.contains_iff_mem] at hc
    obtain ⟨h1, h2⟩ := hc
    rw [← e]
    clear e
    have key : ∀ t' ∈ ["NoneType", "bool", "int", "str", "tuple", "list"], ∀ T' ∈ ["bool", "int", "str", "tuple", "list"], kitB t' T' = some (t' == T' || (t' == "bool" && T' == "int")) := by decide +kernel
    exact key t h1 T h2
  · cases e
section
variable {K : PySem.W.Frag} {mg : Str → Option Value} {α α' : Al} {F F' H H' : Hp} {h h' : Hs} {s : Sl} {σ : St} {E : XK}
theorem tyX_seqL {H : Hp} {a : Addr} {vs : List V} (q : SqL K H a vs) : TyX K H (.ref a) (.type "list") := by
  rcases q with (q | ⟨o, q⟩) | ⟨o, its, n, h1, h2, _⟩
  · exact .base (.lst q)
  · exact .base (.frz q)
  · exact .kList h1 h2
theorem tyX_seqT {H : Hp} {a : Addr} {vs : List V} (q : SqT K H a vs) : TyX K H (.ref a) (.type "tuple") := by
  rcases q with (q | ⟨o, q⟩) | ⟨o, its, n, h1, h2, _⟩
  · exact .base (.tup q)
  · exact .fTuple q
  · exact .kTuple h1 h2
theorem tyD_ok (w : Wd τ K α F H h) {d : D} {v : V} {t : String} (r : RD K α F d v) (e : tyD d h = some t) : TyX K H v (.type t) := by
  cases r with
  | non => cases e; exact .base .non
  | bl b => cases e; exact .base (.bl b)
  | int i => cases e; exact .base (.int i)
  | str x => cases e; exact .base (.str x)
  | ty n => cases e
  | tup f q => cases e; exact tyX_seqT (Same.seqT w.sub f)
  | lst f q => cases e; exact tyX_seqL (.of (w.sub _ _ f))
  | scr f => cases e; exact tyX_seqL (w.sub.seq f)
  | loc g =>
    obtain ⟨xs, e1, rfl⟩ := Option.map_eq_some_iff.mp (show (cur h _ _).map (fun _ => "list") = some t from e)
    obtain ⟨vs, e3, r⟩ := cur_live w g e1
    exact tyX_seqL (.of e3)
theorem isTys_ok {t : String} : ∀ {us : List D} {vs : List V} {b : Bool}, RDs K α F us vs → isTys t us = some b → ∃ ws : List Value, Paired ClsV vs ws ∧ PySem.W.kitAny K (.type t) ws = some b
  | _, _, _, .nil, e => by cases e; exact ⟨[], .nil, kitAny_nil⟩
  | _, _, b, .cons (.ty T) q, e => by
    simp only [isTys, Option.bind_eq_some_iff] at e
    obtain ⟨b1, e1, e2⟩ := e
    obtain ⟨b2, e3, rfl⟩ := Option.map_eq_some_iff.mp e2
    obtain ⟨ws, p, kk⟩ := isTys_ok q e3
    refine ⟨.type T :: ws, .cons (.ty T) p, kitAny_cons (kit_ty (isTy_ok e1)) (fun h => ?_) fun h => ?_⟩
    · rw [h, Bool.false_or]; exact kk
    · rw [h]; rfl
  | _, _, _, .cons .non _, e => by cases e
  | _, _, _, .cons (.bl _) _, e => by cases e
  | _, _, _, .cons (.int _) _, e => by cases e
  | _, _, _, .cons (.str _) _, e => by cases e
  | _, _, _, .cons (.tup _ _) _, e => by cases e
  | _, _, _, .cons (.lst _ _) _, e => by cases e
  | _, _, _, .cons (.scr _) _, e => by cases e
  | _, _, _, .cons (.loc _) _, e => by cases e

/-! ### sorted, max, min -/
theorem insI_perm (x : Int) : ∀ l : List Int, (insI x l).Perm (x :: l)
  | [] => .refl _
  | y :: r => by
    unfold insI
    split
    · exact .refl _
    · exact ((insI_perm x r).cons y).trans (List.Perm.swap x y r)
theorem sortI_perm : ∀ l : List Int, (sortI l).Perm l
  | [] => .refl _
  | x :: r => (insI_perm x _).trans ((sortI_perm r).cons x)
theorem insI_sorted (x : Int) : ∀ l : List Int, l.Pairwise (· ≤ ·) → (insI x l).Pairwise (· ≤ ·)
  | [], _ => by simp [insI]
  | y :: r, p => by
    unfold insI
    rw [List.pairwise_cons] at p
    split
    · rename_i hxy
      rw [List.pairwise_cons]
      refine ⟨fun z hz => ?_, List.pairwise_cons.mpr p⟩
      rcases List.mem_cons.mp hz with rfl | hz
      · exact hxy
      · exact Int.le_trans hxy (p.1 z hz)
    · rename_i hxy
      rw [List.pairwise_cons]
      refine ⟨fun z hz => ?_, insI_sorted x r p.2⟩
      rcases List.mem_cons.mp ((insI_perm x r).mem_iff.mp hz) with rfl | hz
      · omega
      · exact p.1 z hz
theorem sortI_sorted : ∀ l : List Int, (sortI l).Pairwise (· ≤ ·)
  | [] => .nil
  | x :: r => insI_sorted x _ (sortI_sorted r)
theorem sorted_one {a b : List Int} (p : a.Perm b) (ha : a.Pairwise (· ≤ ·)) (hb : b.Pairwise (· ≤ ·)) : a = b :=
  p.eq_of_pairwise (fun x y _ _ h1 h2 => Int.le_antisymm h1 h2) ha hb
theorem foldmax : ∀ (l : List Int) (x : Int), (l.foldl (fun a b => if b > a then b else a) x ∈ x :: l) ∧ x ≤ l.foldl (fun a b => if b > a then b else a) x ∧ ∀ y ∈ l, y ≤ l.foldl (fun a b => if b > a then b else a) x
  | [], x => ⟨by simp, Int.le_refl _, fun y hy => by simp at hy⟩
  | z :: r, x => by
    simp only [List.foldl_cons]
    obtain ⟨h1, h2, h3⟩ := foldmax r (if z > x then z else x)
    refine ⟨?_, ?_, fun y hy => ?_⟩
    · rcases List.mem_cons.mp h1 with h | h
      · rw [h]
        split <;> simp
      · exact List.mem_cons_of_mem _ (List.mem_cons_of_mem _ h)
    · refine Int.le_trans ?_ h2
      split <;> omega
    · rcases List.mem_cons.mp hy with rfl | hy
      · refine Int.le_trans ?_ h2
        split <;> omega
      · exact h3 y hy
theorem foldmin : ∀ (l : List Int) (x : Int), (l.foldl (fun a b => if b < a then b else a) x ∈ x :: l) ∧ l.foldl (fun a b => if b < a then b else a) x ≤ x ∧ ∀ y ∈ l, l.foldl (fun a b => if b < a then b else a) x ≤ y
  | [], x => ⟨by simp, Int.le_refl _, fun y hy => by simp at hy⟩
  | z :: r, x => by
    simp only [List.foldl_cons]
    obtain ⟨h1, h2, h3⟩ := foldmin r (if z < x then z else x)
    refine ⟨?_, ?_, fun y hy => ?_⟩
    · rcases List.mem_cons.mp h1 with h | h
      · rw [h]
        split <;> simp
      · exact List.mem_cons_of_mem _ (List.mem_cons_of_mem _ h)
    · refine Int.le_trans h2 ?_
      split <;> omega
    · rcases List.mem_cons.mp hy with rfl | hy
      · refine Int.le_trans h2 ?_
        split <;> omega
      · exact h3 y hy
theorem maxI_mem {x : Int} {r : List Int} : maxI (x :: r) ∈ x :: r := (foldmax r x).1
theorem maxI_le {x : Int} {r : List Int} {y : Int} (hy : y ∈ x :: r) : y ≤ maxI (x :: r) := by
  rcases List.mem_cons.mp hy with rfl | hy
  · exact (foldmax r _).2.1
  · exact (foldmax r x).2.2 y hy
theorem minI_mem {x : Int} {r : List Int} : minI (x :: r) ∈ x :: r := (foldmin r x).1
theorem minI_le {x : Int} {r : List Int} {y : Int} (hy : y ∈ x :: r) : minI (x :: r) ≤ y := by
  rcases List.mem_cons.mp hy with rfl | hy
  · exact (foldmin r _).2.1
  · exact (foldmin r x).2.2 y hy

/-! ### the calls -/
/-- a built-in function as a value -/
def Blt.val : Blt → Value
  | .len => .builtin "len"
  | .repr => .builtin "repr"
  | .abs => .builtin "abs"
  | .max => .builtin "max"
  | .min => .builtin "min"
  | .sum => .builtin "sum"
  | .all => .builtin "all"
  | .any => .builtin "any"
  | .sorted => .builtin "sorted"
  | .isinstance => .builtin "isinstance"
  | .int => .type "int"
  | .bool => .type "bool"
  | .str => .type "str"
  | .list => .type "list"
  | .tuple => .type "tuple"
theorem call_repr_bool {X : Cx} : CallR X (.builtin "repr") (fun xs H Q => ∃ b : Bool, xs = [.bl b] ∧ Q (.str (if b then "True" else "False")) H) := by
  intro pins s σ H xs us Q I r h
  obtain ⟨b, rfl, q⟩ := h
  obtain ⟨u, rfl, rfl⟩ := vals1 r
  exact PySem.P.repr_of_bool ⟨.str _, H, I.tok _, ⟨_, rfl⟩, q⟩
theorem call_repr_none {X : Cx} : CallR X (.builtin "repr") (fun xs H Q => xs = [.non] ∧ Q (.str "None") H) := by
  intro pins s σ H xs us Q I r h
  obtain ⟨rfl, q⟩ := h
  obtain ⟨u, rfl, rfl⟩ := vals1 r
  exact PySem.P.repr_of_none ⟨.str _, H, I.tok _, ⟨_, rfl⟩, q⟩
def rBlt (τ : List Addr) (K : PySem.W.Frag) (mg : Str → Option Value) (b : Bool) (k : Blt) : List V → Hp → VK → Prop :=
  fun vs H Q => ∃ E α F h ds, Wd τ K α F H h ∧ RDs K α F ds vs ∧ RP τ K mg E (RD K) α F H (bltD b k ds h) Q
theorem itemsInts (w : Wd τ K α F H h) {d : D} {v : V} {is : List Int} (r : RD K α F d v) (e : (d.items h).bind D.ints = some is) : ∃ a, v = .ref a ∧ SqL K H a (is.map V.int) := by
  obtain ⟨xs, h1, h2⟩ := Option.bind_eq_some_iff.mp e
  obtain ⟨a, vs, rfl, f, q⟩ := items_of w r h1
  rw [ints_of q h2] at f
  exact ⟨a, rfl, f⟩
theorem itemsBools (w : Wd τ K α F H h) {d : D} {v : V} {is : List Bool} (r : RD K α F d v) (e : (d.items h).bind bools = some is) : ∃ a, v = .ref a ∧ SqL K H a (is.map V.bl) := by
  obtain ⟨xs, h1, h2⟩ := Option.bind_eq_some_iff.mp e
  obtain ⟨a, vs, rfl, f, q⟩ := items_of w r h1
  rw [bools_of q h2] at f
  exact ⟨a, rfl, f⟩
theorem mmD_ok {X : Cx} (hK : X.K = K) (hc : X.calm = true) (hu : X.A.units + 65 < cLine) (mx : Bool) {E : XK} {d : D} {v : V} {xs : List D} {pins : List (Addr × Obj)} {s : Shared} {σ : L2.St} {us : List Value} {Q : VK} (I : Inv X pins σ H s) (w : Wd τ K α F H h) (rd : RD K α F d v) (r : Vals [v] us) (e : d.seq h = some xs)
    (p : RP τ K mg E (RD K) α F H (mmD mx xs h) Q) : wpAny (model X.prog X.w) X.A (PySem.call (.builtin (if mx then "max" else "min")) us) (fun v s' => ∃ y H2, Inv X pins σ H2 s' ∧ RelV y v ∧ Q y H2) X.xe s := by
  subst hK
  obtain ⟨a, vs, rfl, f, q⟩ := seq_of w rd e
  unfold mmD at p
  split at p
  · rename_i p0 ps hp
    split at p
    · rename_i hk
      unfold mmOk at hk
      simp only [Bool.and_eq_true, List.all_eq_true, decide_eq_true_eq, Bool.not_eq_true'] at hk
      refine cr_best hc (by omega) mx pins s σ H _ us Q I r ⟨a, vs, p0, ps, rfl, f, pys_of w q hp, fun x hx y hy => hk.1.1 x hx y hy, fun x hx z => ?_, hk.2, fun i x hx hb => ?_⟩
      · have := hk.1.2 x hx
        rw [z] at this
        cases this
      · obtain ⟨dd, e1, r1⟩ := q.get' hx
        have e2 : D.un (best mx p0 ps) = dd := by
          have : ∀ {ds : List D} {qs : List PyData} {i : Nat} {d : D} {z : PyData}, D.pys ds = some qs → ds[i]? = some d → qs[i]? = some z → d.py = some z := by
            intro ds
            induction ds with
            | nil => intro qs i d z _ h2; simp at h2
            | cons y r ih =>
              intro qs i d z h1 h2 h3
              obtain ⟨p1, g1, g2⟩ := Option.bind_eq_some_iff.mp (show ((D.py y).bind fun a => (D.pys r).map fun as => a :: as) = some _ from h1)
              obtain ⟨ps1, g3, rfl⟩ := Option.map_eq_some_iff.mp g2
              cases i with
              | zero => simp at h2 h3; subst h2; subst h3; exact g1
              | succ i => exact ih g3 (by simpa using h2) (by simpa using h3)
          exact D.un_py (this hp e1 hb)
        exact p.ok w (by rw [e2]; exact r1)
    · exact p.elim
  · exact p.elim
theorem blt_call {X : Cx} (hK : X.K = K) (hc : X.calm = true) (hu : X.A.units + 65 < cLine) (b : Bool) (k : Blt) : CallR X k.val (rBlt τ K mg b k) := by
  subst hK
  intro pins s σ H vs us Q I r hq
  obtain ⟨E, α, F, h, ds, w, rd, p⟩ := hq
  unfold bltD at p
  split at p
  · -- len
    cases rd with
    | cons rx rn =>
      cases rn
      split at p
      · cases rx
        split at p
        · rename_i hz
          exact call_len pins s σ H _ us Q I r ⟨_, _, rfl, ⟨hz, rfl⟩, p.ok w (.int _)⟩
        · exact p.elim
      · split at p
        · rename_i h1
          obtain ⟨a, vs, rfl, f, q⟩ := seq_of w rx h1
          refine call_len pins s σ H _ us Q I r ⟨_, _, rfl, ?_, p.ok w (.int _)⟩
          rcases f with f | f
          · exact .inl ⟨_, f, q.length⟩
          · exact .inr ⟨_, f, q.length⟩
        · exact p.elim
  · cases rd with
    | cons rx rn => cases rn; cases rx; exact call_abs pins s σ H _ us Q I r ⟨_, rfl, p.ok w (.int _)⟩
  · cases rd with
    | cons rx rn => cases rn with
      | cons ry rn => cases rn; cases rx; cases ry; exact call_max2 hc pins s σ H _ us Q I r ⟨_, _, rfl, p.ok w (.int _)⟩
  · cases rd with
    | cons rx rn => cases rn with
      | cons ry rn => cases rn; cases rx; cases ry; exact call_min2 hc pins s σ H _ us Q I r ⟨_, _, rfl, p.ok w (.int _)⟩
  · cases rd with
    | cons rx rn =>
      cases rn
      split at p
      · rename_i h1
        obtain ⟨a, rfl, f⟩ := itemsInts w rx h1
        have q := p.ok w (.int _)
        refine cr_max hc pins s σ H _ us Q I r ⟨_, _, rfl, f, by simp, fun m hm hle => ?_⟩
        rw [Int.le_antisymm (maxI_le hm) (hle _ maxI_mem)]
        exact q
      · split at p
        · rename_i h2
          exact mmD_ok (E := E) rfl hc hu true I w rx r h2 p
        · exact p.elim
  · cases rd with
    | cons rx rn =>
      cases rn
      split at p
      · rename_i h1
        obtain ⟨a, rfl, f⟩ := itemsInts w rx h1
        have q := p.ok w (.int _)
        refine cr_min hc pins s σ H _ us Q I r ⟨_, _, rfl, f, by simp, fun m hm hle => ?_⟩
        rw [Int.le_antisymm (hle _ minI_mem) (minI_le hm)]
        exact q
      · split at p
        · rename_i h2
          exact mmD_ok (E := E) rfl hc hu false I w rx r h2 p
        · exact p.elim
  · cases rd with
    | cons rx rn => cases rn; cases rx; exact call_int1 pins s σ H _ us Q I r (.inl ⟨_, rfl, p.ok w (.int _)⟩)
  · cases rd with
    | cons rx rn => cases rn; cases rx; exact call_int1 pins s σ H _ us Q I r (.inr ⟨_, rfl, p.ok w (.int _)⟩)
  · cases rd with
    | cons rx rn => cases rn; cases rx; exact call_bool1 pins s σ H _ us Q I r (.inl ⟨_, rfl, p.ok w (.bl _)⟩)
  · cases rd with
    | cons rx rn => cases rn; cases rx; exact call_bool1 pins s σ H _ us Q I r (.inr ⟨_, rfl, p.ok w (.bl _)⟩)
  · cases rd with
    | cons rx rn =>
      cases rn; cases rx
      split at p
      · rename_i hz
        exact call_str_int pins s σ H _ us Q I r ⟨_, rfl, hz, p.ok w (.str _)⟩
      · exact p.elim
  · cases rd with
    | cons rx rn =>
      cases rn
      split at p
      · rename_i h1
        obtain ⟨a, rfl, f⟩ := itemsInts w rx h1
        exact cr_sum hc pins s σ H _ us Q I r ⟨_, _, rfl, f, p.ok w (.int _)⟩
      · split at p
        · split at p
          · rename_i xs is h1
            cases rx with
            | tup f q =>
              have f := Same.seqT w.sub f
              rw [ints_of q h1] at f
              exact cr_sumT hc pins s σ H _ us Q I r ⟨_, _, rfl, f, p.ok w (.int _)⟩
          · exact p.elim
        · exact p.elim
  · cases rd with
    | cons rx rn =>
      cases rn
      split at p
      · rename_i h1
        obtain ⟨a, rfl, f⟩ := itemsBools w rx h1
        exact cr_all hc pins s σ H _ us Q I r ⟨_, _, rfl, f, p.ok w (.bl _)⟩
      · exact p.elim
  · cases rd with
    | cons rx rn =>
      cases rn
      split at p
      · rename_i h1
        obtain ⟨a, rfl, f⟩ := itemsBools w rx h1
        exact cr_any hc pins s σ H _ us Q I r ⟨_, _, rfl, f, p.ok w (.bl _)⟩
      · exact p.elim
  · cases rd with
    | cons rx rn =>
      cases rn
      split at p
      · rename_i is h1
        obtain ⟨a, rfl, f⟩ := itemsInts w rx h1
        refine cr_sortedI pins s σ H _ us Q I r ⟨_, _, rfl, f, fun ns' q hp hs hn => ?_⟩
        rw [sorted_one (hp.trans (sortI_perm is).symm) hs (sortI_sorted is)]
        exact (RP.mkL w (RDs.ints _) p).2 q hn
      · split at p
        · rename_i h1
          split at p
          · rename_i h2
            split at p
            · rename_i h3
              obtain ⟨a, vs, rfl, f, q⟩ := items_of w rx h1
              refine cr_sortedD (by omega) pins s σ H _ us Q I r ⟨_, _, _, rfl, f, pys_of w q h2, h3, fun p' hn => ?_⟩
              exact (RP.mkL w (q.srt _) p).2 p' hn
            · exact p.elim
          · exact p.elim
        · split at p
          · rename_i l kk kvs he
            split at p
            · rename_i h3
              obtain ⟨a, uo, rfl, hg, nd, ga, hF, hH, ro, _⟩ := dcAt_live w rx he
              obtain ⟨u, rfl, ru⟩ := vals1 r
              obtain rfl : u = Value.ref a := ru
              cases ro with
              | @dt _ xs rv =>
                obtain ⟨t1, t2⟩ := dts_tups rv
                rw [t1] at h3 p
                exact sorted_dt hc (by omega) I hH (dts_keys w.sub rv) h3 fun p' hn => (RP.mkL w (t2.srt _) p).2 p' hn
            · exact p.elim
          · exact p.elim
  · cases rd with
    | cons rx rn =>
      cases rn
      split at p
      · rename_i h1
        obtain ⟨a, vs, rfl, f, q⟩ := seq_of w rx h1
        exact call_list_of pins s σ H _ us Q I r ⟨_, _, rfl, f, (RP.mkL w q p).2⟩
      · exact p.elim
  · cases rd with
    | cons rx rn =>
      cases rn
      split at p
      · cases rx with
        | tup f q => exact call_tuple_of pins s σ H _ us Q I r ⟨_, _, rfl, .inr ⟨Same.seqT w.sub f, p.ok w (.tup f q)⟩⟩
      · split at p
        · rename_i h1
          obtain ⟨a, vs, rfl, f, q⟩ := items_of w rx h1
          refine call_tuple_of pins s σ H _ us Q I r ⟨_, _, rfl, .inl ⟨f, fun l hl => ?_⟩⟩
          obtain ⟨w', x', e'⟩ := w.newF hl (.tup vs)
          exact p _ _ _ _ x' w' (.tup (SqT.of e') (x'.rds q))
        · exact p.elim
  · cases rd with
    | cons rx rn => cases rn with
      | cons ry rn =>
        cases rn
        split at p
        · cases ry
          rename_i ht
          split at p
          · rename_i hT
            exact call_isi pins s σ H _ us Q I r ⟨_, _, _, _, _, rfl, .ty _, tyD_ok w rx ht, kit_ty (isTy_ok hT), p.ok w (.bl _)⟩
          · exact p.elim
        · exact p.elim
  · -- repr
    cases rd with
    | cons rx rn =>
      cases rn
      split at p
      · cases rx
        exact call_repr_bool pins s σ H _ us Q I r ⟨_, rfl, p.ok w (.str _)⟩
      · cases rx
        split at p
        · rename_i hz
          exact SkE.call_repr_int pins s σ H _ us Q I r ⟨_, rfl, hz, p.ok w (.str _)⟩
        · exact p.elim
      · cases rx
        exact call_repr_none pins s σ H _ us Q I r ⟨rfl, p.ok w (.str _)⟩
      · exact p.elim
  · exact p.elim
end
end Bk

/-! BkMth: methods of lists. -/
namespace Bk
open PySem PySem.Spec PyProof.Rows L2
theorem fstAt_some {f : PyData → Bool} : ∀ {l : List PyData} {j : Nat}, fstAt f l = some j → ∃ z, l[j]? = some z ∧ f z = true ∧ ∀ (m : Nat) (z' : PyData), m < j → l[m]? = some z' → f z' = false
  | [], _, e => by cases e
  | x :: r, j, e => by
    unfold fstAt at e
    split at e
    · rename_i hx
      cases e
      exact ⟨x, rfl, hx, fun m _ hm => absurd hm (Nat.not_lt_zero _)⟩
    · rename_i hx
      obtain ⟨i, hi, rfl⟩ := Option.map_eq_some_iff.mp e
      obtain ⟨z, h1, h2, h3⟩ := fstAt_some hi
      refine ⟨z, h1, h2, fun m z' hm hz => ?_⟩
      cases m with
      | zero =>
        have hz' : x = z' := Option.some.inj hz
        rw [← hz']
        exact Bool.eq_false_iff.mpr hx
      | succ m => exact h3 m z' (by omega) hz
theorem attrBase {o : Expr} {m : Str} {env : Env} {whole : Sem Value} (h : isCall0 o = false) : attributeBase o m env whole = whole := by
  unfold attributeBase
  split
  · cases h
  · rfl
def Mth.id : Mth → String
  | .append => "list.append"
  | .pop => "list.pop"
  | .index => "list.index"
  | .extend => "list.extend"
  | .insert => "list.insert"
  | .reverse => "list.reverse"
def Mth.name : Mth → Str
  | .append => "append"
  | .pop => "pop"
  | .index => "index"
  | .extend => "extend"
  | .insert => "insert"
  | .reverse => "reverse"
theorem mthOf_name {m : Str} {k : Mth} (e : mthOf m = some k) : m = k.name ∧ k ≠ .extend := by
  unfold mthOf at e
  split at e
  · cases e; exact ⟨by assumption, by decide⟩
  split at e
  · cases e; exact ⟨by assumption, by decide⟩
  split at e
  · cases e; exact ⟨by assumption, by decide⟩
  split at e
  · cases e; exact ⟨by assumption, by decide⟩
  split at e
  · cases e; exact ⟨by assumption, by decide⟩
  · cases e
theorem slot_of (k : Mth) (h : k ≠ .extend) : Slot "list" k.name k.id := by
  cases k with
  | append => exact PySem.F.slot_list_append
  | pop => exact PySem.F.slot_list_pop
  | index => exact PySem.F.slot_list_index
  | reverse => exact PySem.F.slot_list_reverse
  | extend => exact absurd rfl h
  | insert => exact PySem.F.slot_list_insert
theorem type_of (k : Mth) (h : k ≠ .extend) : typeOf (.builtin k.id) = pure (.type "method_descriptor") := by
  cases k with
  | append => exact PySem.F.type_list_append
  | pop => exact PySem.F.type_list_pop
  | index => exact PySem.F.type_list_index
  | reverse => exact PySem.F.type_list_reverse
  | extend => exact absurd rfl h
  | insert => exact PySem.F.type_list_insert
section
variable {K : PySem.W.Frag} {mg : Str → Option Value} {α α' : Al} {F F' H H' : Hp} {h h' : Hs} {s : Sl} {σ : St} {E : XK}
def rMth (τ : List Addr) (K : PySem.W.Frag) (mg : Str → Option Value) (k : Mth) : V → List V → Hp → VK → Prop :=
  fun x vs H Q => ∃ E α F h d ds, Wd τ K α F H h ∧ RD K α F d x ∧ RDs K α F ds vs ∧ RP τ K mg E (RD K) α F H (mthD k d ds h) Q
theorem wr_ok {Q : VK} {a : Addr} {l k : Nat} {o o' : Ob} {u : HO} {y : D} {v : V} (w : Wd τ K α F H h) (e : gt h l k = some o) (nd : o ≠ .dead) (g : gt α l k = some a) (r : RO K α F a o' u) (ry : RD K α F y v)
    (p : RP τ K mg E (RD K) α F H (wr l k o' h fun h' => .ok y h') Q) : Q v (upd H a u) := by
  unfold wr at p
  split at p
  · rename_i hok
    obtain ⟨w', x'⟩ := w.write e nd g r hok
    exact p _ _ _ _ x' w' ry
  · exact p.elim
theorem index_ok {X : Cx} (hK : X.K = K) (hu : X.A.units + 65 < cLine) {pins : List (Addr × Obj)} {sh : Shared} {x : V} {xs : List V} {v : Value} {us : List Value} {Q : VK} {d y : D} {ys : List D} (w : Wd τ K α F H h) (I : Inv X pins σ H sh) (rx : RelV x v) (rs : Vals xs us)
    (r1 : RD K α F d x) (r2 : RDs K α F [y] xs) (e1 : d.own h = some ys)
    (p : RP τ K mg E (RD K) α F H (match (y.now h).py, D.pys ys with
      | some p, some qs => if SeqAt.shaped p = true ∧ SeqAt.shaped (.list qs) = true then match fstAt (fun z => PyData.eqv z p) qs with
          | some j => .ok (.int j) h
          | none => .bad
        else .bad
      | _, _ => .bad) Q) : wpAny (model X.prog X.w) X.A (call (.builtin "list.index") (v :: us)) (EP X pins σ Q) X.xe sh := by
  subst hK
  split at p
  · rename_i q qs h1 h2
    split at p
    · rename_i hs
      split at p
      · rename_i j hj
        obtain ⟨z, z1, z2, z3⟩ := fstAt_some hj
        have hl := seqPy_of w r1 e1 h2
        obtain ⟨a, vs, rfl, f, _⟩ := own_of w r1 e1
        cases r2 with
        | cons ry rn =>
          cases rn
          exact mt_indexD hu pins sh σ H _ _ v us Q I rx rs ⟨a, _, q, qs, j, z, rfl, rfl, hl, now_of w ry h1, hs.2, hs.1, z1, z2, z3, p.ok w (.int _)⟩
      · exact p.elim
    · exact p.elim
  · exact p.elim
theorem mt_D {X : Cx} (hK : X.K = K) (hu : X.A.units + 65 < cLine) (k : Mth) : MtR X k.id (rMth τ K mg k) := by
  subst hK
  intro pins s σ H x xs v us Q I rx rs hq
  obtain ⟨E, α, F, h, d, ds, w, r1, r2, p⟩ := hq
  unfold mthD at p
  split at p
  · rename_i l j
    cases r1 with
    | loc g =>
      split at p
      · rename_i ys hc
        obtain ⟨vs, e3, r⟩ := cur_live w g hc
        have hg := cur_iff.mp hc
        have nd : Ob.lst ys ≠ .dead := fun z => by cases z
        split at p
        · cases r2 with
          | cons ry rn =>
            cases rn
            split at p
            · rename_i hz
              exact mt_append pins s σ H _ _ v us Q I rx rs ⟨_, _, _, rfl, rfl, e3, by rw [← r.length]; exact hz, wr_ok w hg nd g (.lst (r.append (.cons ry .nil))) .non p⟩
            · exact p.elim
        · cases r2
          split at p
          · rename_i y hy
            obtain ⟨v', e4, r4⟩ := r.get hy
            exact mt_pop pins s σ H _ _ v us Q I rx rs ⟨_, _, _, rfl, rfl, e3, by rw [← r.length]; exact e4, wr_ok w hg nd g (.lst r.dropLast) r4 p⟩
          · exact p.elim
        · cases r2 with
          | cons ry rn =>
            cases rn; cases ry
            split at p
            · rename_i hz
              split at p
              · rename_i i hi
                split at p
                · rename_i y hy
                  obtain ⟨v', e4, r4⟩ := r.get hy
                  exact mt_popAt pins s σ H _ _ v us Q I rx rs ⟨_, _, _, i, _, rfl, rfl, e3, hz.1, hz.2, by rw [← r.length]; exact hi, e4, wr_ok w hg nd g (.lst (r.erase i)) r4 p⟩
                · exact p.elim
              · exact p.elim
            · exact p.elim
        · cases r2
          exact mt_reverse pins s σ H _ _ v us Q I rx rs ⟨_, _, rfl, rfl, e3, wr_ok w hg nd g (.lst r.reverse) .non p⟩
        · cases r2 with
          | cons ry rn =>
            cases ry
            cases rn with
            | cons ry2 rn =>
              cases rn
              split at p
              · rename_i hz
                exact mt_insert pins s σ H _ _ v us Q I rx rs ⟨_, _, _, _, rfl, rfl, e3, by rw [← r.length]; exact hz.2.2, hz.1, hz.2.1, wr_ok w hg nd g (.lst (((r.take _).append (.cons ry2 .nil)).append (r.drop _))) .non p⟩
              · exact p.elim
        · exact index_ok rfl hu w I rx rs (.loc g) r2 hc p
        · exact p.elim
      · exact p.elim
  · rename_i ys
    split at p
    · exact index_ok rfl hu w I rx rs r1 r2 rfl p
    · exact p.elim
  · exact p.elim
/-! methods of dicts -/
def Dm.id : Dm → String
  | .get => "dict.get"
  | .setdefault => "dict.setdefault"
def Dm.name : Dm → Str
  | .get => "get"
  | .setdefault => "setdefault"
theorem dmOf_name {m : Str} {q : Dm} (e : dmOf m = some q) : m = q.name := by
  unfold dmOf at e
  split at e
  · cases e; assumption
  split at e
  · cases e; assumption
  · cases e
theorem slot_dm (q : Dm) : Slot "dict" q.name q.id := by
  cases q with
  | get => exact PySem.F.slot_dict_get
  | setdefault => exact PySem.F.slot_dict_setdefault
theorem type_dm (q : Dm) : typeOf (.builtin q.id) = pure (.type "method_descriptor") := by
  cases q with
  | get => exact PySem.F.type_dict_get
  | setdefault => exact PySem.F.type_dict_setdefault
def rDm (τ : List Addr) (K : PySem.W.Frag) (mg : Str → Option Value) (m : Dm) : V → List V → Hp → VK → Prop :=
  fun x vs H Q => ∃ E α F h d ds, Wd τ K α F H h ∧ RD K α F d x ∧ RDs K α F ds vs ∧ RP τ K mg E (RD K) α F H (dmD m d ds h) Q
/-- what is looked up -/
theorem dcLook_ok {y : V} {e : D} {a : Addr} {o : Ob} {uo : HO} {z : Option D} (r2 : RD K α F e y) (hH : H a = some uo) (ro : RO K α F a o uo) (hk : (∃ kvs, o = .dk kvs) ∨ ∃ kvs, o = .dt kvs) (hz : dcLook o e = some z) :
    (∃ kvs ws ky, o = .dk kvs ∧ H a = some (.dK ws) ∧ y = kV ky ∧ DVs K α F kvs ws ∧ keyK e = some ky ∧ ((∃ d v, z = some d ∧ valV ws ky = some v ∧ RD K α F d v) ∨ (z = none ∧ valV ws ky = none))) ∨
    (∃ kvs xs ks b, o = .dt kvs ∧ H a = some (DtO a xs) ∧ y = .ref b ∧ SqT K F b (ks.map V.int) ∧ DTs K α F kvs xs ∧ keyT e = some ks ∧ ((∃ d v p, z = some d ∧ atKey xs ks = some p ∧ RD K α F d v ∧ RelV v p.2) ∨ (z = none ∧ atKey xs ks = none))) := by
  rcases hk with ⟨kvs, rfl⟩ | ⟨kvs, rfl⟩
  · obtain ⟨ky, e1, e2⟩ := Option.map_eq_some_iff.mp (show (keyK e).map (vAt kvs) = some z from hz)
    cases ro with
    | @dk _ ws rv =>
      refine .inl ⟨kvs, ws, ky, rfl, hH, keyK_ok r2 e1, rv, e1, ?_⟩
      rcases dvs_val rv ky with ⟨d, v, f1, f2, f3⟩ | ⟨f1, f2⟩
      · exact .inl ⟨d, v, by rw [← e2, f1], f2, f3⟩
      · exact .inr ⟨by rw [← e2, f1], f2⟩
  · obtain ⟨ky, e1, e2⟩ := Option.map_eq_some_iff.mp (show (keyT e).map (vAt kvs) = some z from hz)
    obtain ⟨b, rfl, hb⟩ := keyT_ok r2 e1
    cases ro with
    | @dt _ xs rv =>
      refine .inr ⟨kvs, xs, ky, b, rfl, hH, rfl, hb, rv, e1, ?_⟩
      rcases dts_val rv ky with ⟨d, v, p, f1, f2, f3, f4⟩ | ⟨f1, f2⟩
      · exact .inl ⟨d, v, p, by rw [← e2, f1], f2, f3, f4⟩
      · exact .inr ⟨by rw [← e2, f1], f2⟩
theorem dm_ok {X : Cx} (hK : X.K = K) (hu : X.A.units + 65 < cLine) (m : Dm) {pins : List (Addr × Obj)} {s : Shared} {x : V} {xs : List V} {v : Value} {us : List Value} {Q : VK} (I : Inv X pins σ H s) (rx : RelV x v) (rs : Vals xs us) (hq : rDm τ K mg m x xs H Q) :
    wpAny (model X.prog X.w) X.A (call (.builtin m.id) (v :: us)) (EP X pins σ Q) X.xe s := by
  subst hK
  have hu1 : X.A.units + 1 < cLine := by omega
  obtain ⟨E, α, F, h, d, ds, w, r1, r2, p⟩ := hq
  unfold dmD at p
  split at p
  · rename_i l k o he
    obtain ⟨a, uo, rfl, hg, nd, ga, hF, hH, ro, hk⟩ := dcAt_live w r1 he
    obtain rfl : v = Value.ref a := rx
    split at p
    · cases r2 with
      | cons ry rn =>
        cases rn
        cases rs with
        | cons sy sn =>
          cases sn
          split at p
          · rename_i z hz
            rcases dcLook_ok ry hH ro hk hz with ⟨kvs, ws, ky, rfl, hH', rfl, rv, _, q⟩ | ⟨kvs, xs, ks, b, rfl, hH', rfl, hb, rv, _, q⟩
            · refine d_get1 hu1 I (DGet.k (k := ky) hH') sy fun w' s' I' rw' => ⟨_, H, I', rw', ?_⟩
              rcases q with ⟨d', v', rfl, f2, f3⟩ | ⟨rfl, f2⟩
              · rw [f2]; exact p.ok w f3
              · rw [f2]; exact p.ok w .non
            · obtain rfl : _ = Value.ref b := sy
              refine dt_get1 hu1 I hH' (dts_keys w.sub rv) (Same.seqT w.sub hb) fun s' I' => ?_
              rcases q with ⟨d', v', q', rfl, f2, f3, f4⟩ | ⟨rfl, f2⟩
              · rw [f2]; exact ⟨v', H, I', f4, p.ok w f3⟩
              · rw [f2]; exact ⟨.non, H, I', rfl, p.ok w .non⟩
          · exact p.elim
    · cases r2 with
      | cons ry rn =>
        cases rn with
        | cons ry2 rn =>
          cases rn
          cases rs with
          | cons sy sn =>
            cases sn with
            | cons sy2 sn =>
              cases sn
              split at p
              · rename_i z hz
                rcases dcLook_ok ry hH ro hk hz with ⟨kvs, ws, ky, rfl, hH', rfl, rv, _, q⟩ | ⟨kvs, xs, ks, b, rfl, hH', rfl, hb, rv, _, q⟩
                · refine d_get2 hu1 I (DGet.k (k := ky) hH') sy sy2 fun w' s' I' rw' => ⟨_, H, I', rw', ?_⟩
                  rcases q with ⟨d', v', rfl, f2, f3⟩ | ⟨rfl, f2⟩
                  · rw [f2]; exact p.ok w f3
                  · rw [f2]; exact p.ok w ry2
                · obtain rfl : _ = Value.ref b := sy
                  refine dt_get2 hu1 I hH' (dts_keys w.sub rv) (Same.seqT w.sub hb) fun s' I' => ?_
                  rcases q with ⟨d', v', q', rfl, f2, f3, f4⟩ | ⟨rfl, f2⟩
                  · rw [f2]; exact ⟨v', H, I', f4, p.ok w f3⟩
                  · rw [f2]; exact ⟨_, H, I', sy2, p.ok w ry2⟩
              · exact p.elim
    · cases r2 with
      | cons ry rn =>
        cases rn with
        | cons ry2 rn =>
          cases rn
          cases rs with
          | cons sy sn =>
            cases sn with
            | cons sy2 sn =>
              cases sn
              split at p
              · rename_i o' ho'
                have wrt : ∀ {u' : HO}, RO X.K α F a o' u' → RP τ X.K mg E (RD X.K) α F H (wr l k o' h fun h' => .ok _ h') Q → Q _ (upd H a u') := fun {u'} ro' p => wr_ok w hg nd ga ro' ry2 p
                cases hz : dcLook o _ with
                | none => rw [hz] at p; exact p.elim
                | some z =>
                  rw [hz] at p
                  rcases dcLook_ok ry hH ro hk hz with ⟨kvs, ws, ky, rfl, hH', rfl, rv, ek, q⟩ | ⟨kvs, xs, ks, b, rfl, hH', rfl, hb, rv, ek, q⟩
                  · have ho' : (if kvs.length < sizeLine then (keyK _).map fun k => Ob.dk (vPut kvs k _) else none) = some o' := ho'
                    split at ho'
                    · rename_i hl
                      rw [ek] at ho'
                      cases ho'
                      refine d_setd I hH' sy sy2 (by rw [← Paired.length rv]; exact hl) (fun v hv w' s' I' rw' => ?_) (fun hn w' s' I' rw' => ?_)
                      · rcases q with ⟨d', v', rfl, f2, f3⟩ | ⟨_, f2⟩
                        · rw [f2] at hv; cases hv
                          exact ⟨_, H, I', rw', p.ok w f3⟩
                        · rw [f2] at hv; cases hv
                      · rcases q with ⟨d', v', rfl, f2, f3⟩ | ⟨rfl, f2⟩
                        · rw [f2] at hn; cases hn
                        · exact ⟨_, _, I', rw', wrt (.dk (dvs_put rv ky ry2)) p⟩
                    · cases ho'
                  · have ho' : (if kvs.length < sizeLine then (keyT _).map fun k => Ob.dt (vPut kvs k _) else none) = some o' := ho'
                    split at ho'
                    · rename_i hl
                      rw [ek] at ho'
                      cases ho'
                      obtain rfl : _ = Value.ref b := sy
                      refine dt_setdefault hu1 I hH' (dts_keys w.sub rv) (Same.seqT w.sub hb) (by rw [← Paired.length rv]; exact hl) (fun q' hq' s' I' => ?_) (fun hn s' I' => ?_)
                      · rcases q with ⟨d', v', q2, rfl, f2, f3, f4⟩ | ⟨_, f2⟩
                        · rw [f2] at hq'; cases hq'
                          exact ⟨_, H, I', f4, p.ok w f3⟩
                        · rw [f2] at hq'; cases hq'
                      · rcases q with ⟨d', v', q2, rfl, f2, f3, f4⟩ | ⟨rfl, f2⟩
                        · rw [f2] at hn; cases hn
                        · exact ⟨_, _, I', sy2, wrt (.dt (dts_put rv ks hb ry2 sy2)) p⟩
                    · cases ho'
              · exact p.elim
    · exact p.elim
  · exact p.elim
end
end Bk

/-! BkRules: the evaluator's rules for expressions and tests, over any parts that are sound. -/
namespace Bk
open PySem PySem.Spec PyProof.Rows L2

section
variable {K : PySem.W.Frag} {mg : Str → Option Value} {α α' : Al} {F F' H H' : Hp} {h h' : Hs} {s : Sl} {σ : St} {E : XK} {W : WX}
theorem RP.mono {A B : Type} {rel : Al → Hp → A → B → Prop} {r : Res A} {Q Q' : B → Hp → Prop} (i : ∀ b H, Q b H → Q' b H) (p : RP τ K mg E rel α F H r Q) : RP τ K mg E rel α F H r Q' := by
  cases r with
  | ok d h' => exact fun α' F' H' b x w r => i _ _ (p α' F' H' b x w r)
  | exc e h' => exact p
  | bad => exact p
theorem tR.mono {A B : Type} {rel : Al → Hp → A → B → Prop} {f : Sl → Hs → Res A} {Q Q' : B → Hp → Prop} (i : ∀ b H, Q b H → Q' b H) (p : tR τ K mg W rel f σ H Q) : tR τ K mg W rel f σ H Q' := by
  obtain ⟨α, F, h, s, a, p⟩ := p
  exact ⟨α, F, h, s, a, p.mono i⟩
theorem At.ext {α' : Al} {F' H' : Hp} {h' : Hs} (a : At τ K α F H h s σ) (x : Ext α F H α' F' H') (w : Wd τ K α' F' H' h') : At τ K α' F' H' h' s σ := ⟨w, a.2.mono x⟩
/-- one part behind another -/
theorem tR.seq {A B C C' : Type} {rel : Al → Hp → A → B → Prop} {rel' : Al → Hp → C → C' → Prop} {f : Sl → Hs → Res A} {g : Sl → A → Hs → Res C} {Q : C' → Hp → Prop} {Z : B → Hp → Prop}
    (p : tR τ K mg W rel' (fun s h => (f s h).bind (g s)) σ H Q)
    (i : ∀ α F H h s d b, At τ K α F H h s σ → rel α F d b → RP τ K mg (fun c d H => W c d σ H) rel' α F H (g s d h) Q → Z b H) : tR τ K mg W rel f σ H Z :=
  (p.bind (rel := rel)).mono fun b H ⟨α, F, h, s, d, a, r, p⟩ => i α F H h s d b a r p
/-- .. from a state that is there -/
theorem RP.seq {A B C C' : Type} {rel : Al → Hp → A → B → Prop} {rel' : Al → Hp → C → C' → Prop} {f : Sl → Hs → Res A} {g : A → Hs → Res C} {Q : C' → Hp → Prop} {Z : B → Hp → Prop} (a : At τ K α F H h s σ)
    (p : RP τ K mg (fun c d H => W c d σ H) rel' α F H ((f s h).bind g) Q)
    (i : ∀ α' F' H' h' d b, Ext α F H α' F' H' → At τ K α' F' H' h' s σ → rel α' F' d b → RP τ K mg (fun c d H => W c d σ H) rel' α' F' H' (g d h') Q → Z b H') : tR τ K mg W rel f σ H Z := by
  refine RP.start a ?_
  have := RP.bind (rel := rel) p
  revert this
  generalize f s h = o
  intro this
  cases o with
  | ok d h' =>
    intro α1 F1 H1 b x w1 q
    obtain ⟨α2, F2, h2, d2, x2, w2, q2, p2⟩ := this α1 F1 H1 b x w1 q
    exact i _ _ _ _ _ _ x2 (a.ext x2 w2) q2 p2
  | exc e h' => exact this
  | bad => exact this
theorem tR.ok {A B : Type} {rel : Al → Hp → A → B → Prop} {f : Sl → Hs → Res A} {g : Sl → A} {Q : B → Hp → Prop} (p : tR τ K mg W rel f σ H Q) (e : ∀ s h, f s h = .ok (g s) h)
    {b : B} (r : ∀ α F h s, At τ K α F H h s σ → rel α F (g s) b) : Q b H := by
  obtain ⟨α, F, h, s, a, p⟩ := p
  rw [e] at p
  exact p.ok a.1 (r _ _ _ _ a)
end

/-! ### the text -/
def spF (τ : List Addr) (K : PySem.W.Frag) (mg : Str → Option Value) (n : Nat) (f : List D → Hs → Res D) : Sp :=
  fun vs H Q E => vs.length = n ∧ ∃ α F h ds, Wd τ K α F H h ∧ RDs K α F ds vs ∧ RP τ K mg E (RD K) α F H (f ds h) Q
/-- what the text's top has left, and what its defs are worth at the level k -/
structure Tp (τ : List Addr) (G : Cfg) (call : Str → List D → Hs → Res D) (P : Program) (w : World) (K : PySem.W.Frag) (mg : Str → Option Value) (base : Heap) (k : Nat) : Prop where
  defs : ∀ x r, G.defs.lookup x = some r → ∃ f fd, mg x = some (.ref f) ∧ PySem.W.keepIn K (.ref f) = true ∧ FnOk P w K mg base (L2.CX P w) k f fd r.ps (spF τ K mg r.ps.length (call x)) ∧ Binds K fd r.ps []
  globs : ∀ x d, G.globs.lookup x = some d → ∃ u v, mg x = some u ∧ RelV v u ∧ RD K [] (fun _ => none) d v
  blts : ∀ x, x ∈ G.blts → mg x = none
  nodbg : ∀ x, (G.defs.lookup x).isSome = true ∨ (G.globs.lookup x).isSome = true ∨ x ∈ G.blts → (x == ("__debug__" : Str)) = false ∧ x ≠ "__name__"
  excs : ∀ x r, G.excs.lookup x = some r → ExcAt P w K mg base x r
  deep : ∀ h, call "" [] h ≠ .bad → 1 ≤ k
structure Gd (τ : List Addr) (G : Cfg) (call : Str → List D → Hs → Res D) (X : Cx) (c : Ctx) (k : Nat) (W : WX) : Prop where
  calm : X.calm = true
  nm : X.N = c.nm
  nd : c.nm.Nodup
  dbg : ("__debug__" : Str) ∉ c.nm ∧ ("__classdict__" : Str) ∉ c.nm
  sc : X.env.scope = c.sc
  kind : c.sc.kind = .function
  room : Room k X.A
  fn : ∀ x, stoN c x = true → X.fn x = true ∨ c.sc.names.lookup x = some .local
  tk : Takes X W
  po : PassesOwn (model X.prog X.w) X.A X.env X.xe
  stk : c.blk = none → X.stack = X.env :: X.outer ∧ X.env.frame = some X.env.locals
  top : Tp τ G call X.prog X.w X.K X.mg X.base k
  gen : c.gen = true → ∃ cc P, X.env.code = .ref cc ∧ GxR.TabB X.base X.mg cc P ∧ P ∈ τ
theorem nameAt_get : ∀ {nm : List Str} {x : Str} {i : Nat}, nameAt nm x = some i → nm[i]? = some x
  | [], _, _, e => by cases e
  | y :: r, x, i, e => by
    unfold nameAt at e
    split at e
    · rename_i h; cases e; rw [h]; rfl
    · obtain ⟨j, hj, rfl⟩ := Option.map_eq_some_iff.mp e
      simpa using nameAt_get hj
theorem ne_beq {x y : Str} (h : x ≠ y) : (x == y) = false := by simpa using h

section
variable {G : Cfg} {call : Str → List D → Hs → Res D} {X : Cx} {c : Ctx} {k : Nat} {W : WX} {S : Sm}
theorem Gd.at_ (g : Gd τ G call X c k W) {x : Str} {i : Nat} (e : nameAt c.nm x = some i) : X.N[i]? = some x := by rw [g.nm]; exact nameAt_get e
theorem Gd.nodbg (g : Gd τ G call X c k W) {x : Str} {i : Nat} (e : nameAt c.nm x = some i) : (x == ("__debug__" : Str)) = false ∧ (x == ("__classdict__" : Str)) = false := by
  have hm : x ∈ c.nm := List.mem_of_getElem? (nameAt_get e)
  exact ⟨ne_beq fun z => g.dbg.1 (z ▸ hm), ne_beq fun z => g.dbg.2 (z ▸ hm)⟩
theorem Gd.vis (g : Gd τ G call X c k W) {x : Str} (e : seen c.sc x = true) : Vis X.env.scope x := by
  unfold seen at e
  rw [← g.sc] at e
  split at e
  · rename_i h; exact .inl h
  · rename_i h; exact .inr (.inl h)
  · rename_i h; exact .inr (.inr h)
  · cases e
theorem Gd.gl (g : Gd τ G call X c k W) {x : Str} (e : isGl c.sc x = true) : Gl X x := by
  unfold isGl at e
  rw [← g.sc] at e
  split at e
  · rename_i h; exact h
  · cases e
theorem Gd.hu (g : Gd τ G call X c k W) : X.A.units + 65 < cLine := by have := g.room.un; omega
theorem tyOf_boot {x : Str} {t : String} (e : tyOf x = some t) : bootBuiltins x = some (.type t) := by
  unfold tyOf at e
  repeat' split at e
  all_goals first
    | (cases e; subst_vars; rfl)
    | cases e
theorem lk_ok {K : PySem.W.Frag} {mg : Str → Option Value} {E : XK} {α : Al} {F H : Hp} {h : Hs} {s : Sl} {σ : St} {i : Nat} {C C' : Type} {rel : Al → Hp → C → C' → Prop} {f : D → Hs → Res C} {Q : C' → Hp → Prop} (r : SR K α F s σ)
    (p : RP τ K mg E rel α F H ((lk s i h).bind f) Q) : ∃ d v, σ[i]? = some (some v) ∧ RD K α F d v ∧ RP τ K mg E rel α F H (f d h) Q := by
  unfold lk at p
  cases hd : s[i]? with
  | none => rw [hd] at p; exact p.elim
  | some o =>
    cases o with
    | none => rw [hd] at p; exact p.elim
    | some d =>
      rw [hd] at p
      obtain ⟨v, e1, rd⟩ := r.2 i d hd
      exact ⟨d, v, e1, rd, p⟩
theorem frzL_ok {τ : List Addr} {K : PySem.W.Frag} {f : D → Hs → Option (D × Hs)} (hf : ∀ {d : D} {h : Hs} {p : D × Hs} {α : Al} {F H : Hp} {v : V}, f d h = some p → Wd τ K α F H h → RD K α F d v → ∃ F', Ext α F H α F' H ∧ Wd τ K α F' H p.2 ∧ RD K α F' p.1 v) :
    ∀ {xs : List D} {h : Hs} {p : List D × Hs} {α : Al} {F H : Hp} {vs : List V}, frzL f xs h = some p → Wd τ K α F H h → RDs K α F xs vs → ∃ F', Ext α F H α F' H ∧ Wd τ K α F' H p.2 ∧ RDs K α F' p.1 vs
  | [], h, p, α, F, H, vs, e, w, r => by
    cases e
    exact ⟨F, Ext.refl, w, r⟩
  | x :: xs, h, p, α, F, H, vs, e, w, r => by
    unfold frzL at e
    obtain ⟨p1, e1, e⟩ := Option.bind_eq_some_iff.mp e
    obtain ⟨q, e2, rfl⟩ := Option.map_eq_some_iff.mp e
    cases r with
    | cons r1 r2 =>
      obtain ⟨F1, x1, w1, s1⟩ := hf e1 w r1
      obtain ⟨F2, x2, w2, s2⟩ := frzL_ok hf e2 w1 (x1.rds r2)
      exact ⟨F2, x1.trans x2, w2, .cons (x2.rd s1) s2⟩
theorem frzD_ok {τ : List Addr} {K : PySem.W.Frag} : ∀ (n : Nat) {d : D} {h : Hs} {p : D × Hs} {α : Al} {F H : Hp} {v : V}, frzD n d h = some p → Wd τ K α F H h → RD K α F d v → ∃ F', Ext α F H α F' H ∧ Wd τ K α F' H p.2 ∧ RD K α F' p.1 v
  | 0, d, h, p, α, F, H, v, e, w, r => by
    cases e
    exact ⟨F, Ext.refl, w, r⟩
  | n + 1, d, h, p, α, F, H, v, e, w, r => by
    unfold frzD at e
    split at e
    · rename_i l k
      split at e
      · rename_i xs hx
        obtain ⟨q, e2, rfl⟩ := Option.map_eq_some_iff.mp e
        cases r with
        | loc gl =>
          obtain ⟨vs, e3, rr⟩ := cur_live w gl hx
          obtain ⟨w', x'⟩ := w.freeze (cur_iff.mp hx) (fun z => by cases z) gl e3
          obtain ⟨F2, x2, w2, s2⟩ := frzL_ok (fun e w r => frzD_ok n e w r) e2 w' (x'.rds rr)
          exact ⟨F2, x'.trans x2, w2, .lst (x2.sub _ _ upd_same) s2⟩
      · cases e
    · obtain ⟨q, e2, rfl⟩ := Option.map_eq_some_iff.mp e
      cases r with
      | lst f rr =>
        obtain ⟨F2, x2, w2, s2⟩ := frzL_ok (fun e w r => frzD_ok n e w r) e2 w rr
        exact ⟨F2, x2, w2, .lst (x2.sub _ _ f) s2⟩
    · obtain ⟨q, e2, rfl⟩ := Option.map_eq_some_iff.mp e
      cases r with
      | tup f rr =>
        obtain ⟨F2, x2, w2, s2⟩ := frzL_ok (fun e w r => frzD_ok n e w r) e2 w rr
        exact ⟨F2, x2, w2, .tup (Same.seqT x2.sub f) s2⟩
    · cases e
      exact ⟨F, Ext.refl, w, r⟩
theorem frzS_ok {τ : List Addr} {K : PySem.W.Frag} {σ : St} : ∀ (is : List Nat) {s : Sl} {h : Hs} {p : Sl × Hs} {α : Al} {F H : Hp}, frzS is s h = some p → At τ K α F H h s σ → ∃ F', Ext α F H α F' H ∧ At τ K α F' H p.2 p.1 σ
  | [], s, h, p, α, F, H, e, a => by
    cases e
    exact ⟨F, Ext.refl, a⟩
  | i :: r, s, h, p, α, F, H, e, a => by
    unfold frzS at e
    split at e
    · rename_i d hd
      obtain ⟨q, e1, e2⟩ := Option.bind_eq_some_iff.mp e
      obtain ⟨v, hv, rd⟩ := a.2.2 i d hd
      obtain ⟨F1, x1, w1, r1⟩ := frzD_ok 3 e1 a.1 rd
      have a1 : At τ K α F1 H q.2 (s.set i (some q.1)) σ := by
        obtain ⟨l1, l2⟩ := a.2.mono x1
        refine ⟨w1, by rw [List.length_set]; exact l1, fun j d' hj => ?_⟩
        rw [List.getElem?_set] at hj
        split at hj
        · rename_i hij
          subst hij
          split at hj
          · cases hj
            exact ⟨v, hv, r1⟩
          · cases hj
        · exact l2 j d' hj
      obtain ⟨F2, x2, a2⟩ := frzS_ok r e2 a1
      exact ⟨F2, x1.trans x2, a2⟩
    · cases e
theorem pe_name (g : Gd τ G call X c k W) {x : Str} {pos : Pos} : PE X (.Name x pos) (tE τ X.K X.mg W (rdName G c x pos)) := by
  by_cases hs : seen c.sc x = true
  · cases hn : nameAt c.nm x with
    | none => exact .no fun σ H Q => tR_bad fun s h => by unfold rdName; rw [if_pos hs, hn]
    | some i =>
      obtain ⟨d1, d2⟩ := g.nodbg hn
      refine (pe_var (g.at_ hn) (g.vis hs) d1 d2).imp fun σ H Q p => ?_
      have e : rdName G c x pos = fun s h => (lk s i h).bind fun d h => if G.isDfz pos then freezeD d h else if G.isFrz pos then freeze d h else .ok d h := by
        funext s h; unfold rdName; rw [if_pos hs, hn]
      rw [e] at p
      obtain ⟨α, F, h, s, ⟨w, r⟩, p⟩ := p
      obtain ⟨d, v, e1, rd, p'⟩ := lk_ok r p
      refine ⟨v, e1, ?_⟩
      by_cases hd : G.isDfz pos = true
      · rw [if_pos hd] at p'
        unfold freezeD at p'
        split at p'
        · rename_i p0 hp0
          obtain ⟨F', x', w', r'⟩ := frzD_ok 3 hp0 w rd
          exact p' _ _ _ _ x' w' r'
        · exact p'.elim
      rw [if_neg hd] at p'
      by_cases hf : G.isFrz pos = true
      · rw [if_pos hf] at p'
        unfold freeze at p'
        split at p'
        · rename_i l j
          split at p'
          · rename_i xs hx
            cases rd with
            | loc gl =>
              obtain ⟨vs, e3, rr⟩ := cur_live w gl hx
              obtain ⟨w', x'⟩ := w.freeze (cur_iff.mp hx) (fun z => by cases z) gl e3
              exact p' _ _ _ _ x' w' (.lst upd_same (x'.rds rr))
          · exact p'.elim
        · exact p'.ok w rd
      · rw [if_neg hf] at p'
        exact p'.ok w rd
  · by_cases hg : isGl c.sc x = true
    · cases hl : G.globs.lookup x with
      | some d =>
        obtain ⟨u, v, h1, h2, h3⟩ := g.top.globs x d hl
        refine (pe_glob (g.gl hg) h1 h2 (g.top.nodbg x (.inr (.inl (by rw [hl]; rfl)))).1).imp fun σ H Q p => ?_
        refine tR.ok (g := fun _ => d) p (fun s h => by unfold rdName; rw [if_neg hs, if_pos hg, hl]) fun α F h s a => h3.mono (fun l k a e => by simp [gt] at e) fun b o e => by cases e
      | none =>
        by_cases hb : G.blts.contains x = true
        · cases ht : tyOf x with
          | none => exact .no fun σ H Q => tR_bad fun s h => by unfold rdName; rw [if_neg hs, if_pos hg, hl]; simp only; rw [if_pos hb, ht]
          | some t =>
            have hm : x ∈ G.blts := List.contains_iff_mem.mp hb
            obtain ⟨n1, n2⟩ := g.top.nodbg x (.inr (.inr hm))
            refine (pe_bltn (g.gl hg) (g.top.blts x hm) (tyOf_boot ht) (show RelV (.ty t) (.type t) from rfl) n2 n1).imp fun σ H Q p => ?_
            exact tR.ok (g := fun _ => .ty t) p (fun s h => by unfold rdName; rw [if_neg hs, if_pos hg, hl]; simp only; rw [if_pos hb, ht]) fun α F h s a => .ty t
        · exact .no fun σ H Q => tR_bad fun s h => by unfold rdName; rw [if_neg hs, if_pos hg, hl]; simp only; rw [if_neg hb]
    · exact .no fun σ H Q => tR_bad fun s h => by unfold rdName; rw [if_neg hs, if_neg hg]

/-! ### operators -/
theorem pe_bin (g : Gd τ G call X c k W) {a b : Expr} {op : Operator} {pos : Pos} {fa fb : Sl → Hs → Res D} (l : Bool) (ha : PE X a (tE τ X.K X.mg W fa)) (hb : PE X b (tE τ X.K X.mg W fb)) :
    PE X (.BinOp a op b pos) (tE τ X.K X.mg W fun s h => (fa s h).bind fun x h1 => (fb s h1).bind fun y h2 => binD l op x y h2) := by
  refine (pe_op (op_binD (τ := τ) (mg := X.mg) rfl l op) ha hb).imp fun σ H Q p => ?_
  refine tR.seq p fun α F H h s d x a r p => ?_
  refine RP.seq (rel := RD X.K) a p fun α' F' H' h' e y x' a' r' p => ?_
  exact ⟨_, _, _, _, _, _, a'.1, x'.rd r, r', p⟩
theorem pe_neg (g : Gd τ G call X c k W) {a : Expr} {pos : Pos} {fa : Sl → Hs → Res D} (ha : PE X a (tE τ X.K X.mg W fa)) : PE X (.UnaryOp .USub a pos) (tE τ X.K X.mg W fun s h => (fa s h).bind negD) := by
  refine (pe_un (un_negD (τ := τ) (mg := X.mg) rfl) ha).imp fun σ H Q p => ?_
  exact tR.seq p fun α F H h s d x a r p => ⟨_, _, _, _, _, a.1, r, p⟩
theorem truthR_ok {K : PySem.W.Frag} {mg : Str → Option Value} {E : XK} {α : Al} {F H : Hp} {h : Hs} {d : D} {v : V} {C C' : Type} {rel : Al → Hp → C → C' → Prop} {f : Bool → Hs → Res C} {Q : C' → Hp → Prop} (w : Wd τ K α F H h) (r : RD K α F d v)
    (p : RP τ K mg E rel α F H ((truthR d h).bind f) Q) : ∃ b, TruV K v H b ∧ RP τ K mg E rel α F H (f b h) Q := by
  unfold truthR at p
  split at p
  · rename_i b hb
    exact ⟨b, truth_of w r hb, p⟩
  · exact p.elim
theorem pe_notD (g : Gd τ G call X c k W) {a : Expr} {pos : Pos} {fa : Sl → Hs → Res D} (ha : PE X a (tE τ X.K X.mg W fa)) :
    PE X (.UnaryOp .Not a pos) (tE τ X.K X.mg W fun s h => (fa s h).bind fun x h1 => (truthR x h1).bind fun b h2 => .ok (.bl (!b)) h2) := by
  refine (pe_notT ha).imp fun σ H Q p => ?_
  refine tR.seq p fun α F H h s d x a r p => ?_
  obtain ⟨b, hb, p⟩ := truthR_ok a.1 r p
  exact ⟨b, hb, p.ok a.1 (.bl _)⟩
theorem pe_bool (g : Gd τ G call X c k W) {op : BoolOp} {pos : Pos} {ev : Expr → Sl → Hs → Res D} (ih : ∀ e, PE X e (tE τ X.K X.mg W (ev e))) : ∀ es : List Expr, PE X (.BoolOp op es pos) (tE τ X.K X.mg W (boolE ev op es))
  | [] => .no fun σ H Q => tR_bad fun s h => rfl
  | [e] => (pe_one (ih e)).imp fun σ H Q p => p
  | a :: b :: r => by
    have hb := pe_bool (pos := pos) (op := op) g ih (b :: r)
    cases op with
    | And =>
      refine (pe_andT (ih a) hb).imp fun σ H Q p => ?_
      refine tR.seq p fun α F H h s d x a r p => ?_
      obtain ⟨k, hk, p⟩ := truthR_ok a.1 r p
      refine ⟨k, hk, ?_⟩
      cases k with
      | true => exact iteT (RP.start a p)
      | false => exact iteF (p.ok a.1 r)
    | Or =>
      refine (pe_orT (ih a) hb).imp fun σ H Q p => ?_
      refine tR.seq p fun α F H h s d x a r p => ?_
      obtain ⟨k, hk, p⟩ := truthR_ok a.1 r p
      refine ⟨k, hk, ?_⟩
      cases k with
      | true => exact iteT (p.ok a.1 r)
      | false => exact iteF (RP.start a p)
theorem pe_if (g : Gd τ G call X c k W) {t a b : Expr} {pos : Pos} {ft : Sl → Hs → Res Bool} {fa fb : Sl → Hs → Res D} (ht : PT X t (tT τ X.K X.mg W ft)) (ha : PE X a (tE τ X.K X.mg W fa)) (hb : PE X b (tE τ X.K X.mg W fb)) :
    PE X (.IfExp t a b pos) (tE τ X.K X.mg W fun s h => (ft s h).bind fun k h1 => if k then fa s h1 else fb s h1) := by
  refine (pe_ifExp ht ha hb).imp fun σ H Q p => ?_
  refine tR.seq p fun α F H h s d b a r p => ?_
  have r' : d = b := r
  subst r'
  cases d with
  | true => exact iteT (RP.start a (f := fa) (by simpa using p))
  | false => exact iteF (RP.start a (f := fb) (by simpa using p))

/-! ### argument lists -/
theorem starEach_cons {e : Expr} {es : List Expr} {env : Env} (h : isStar e = false) : starEach (e :: es) env = (false, eval e env) :: starEach es env := by
  cases e <;> first | rfl | cases h
theorem noStar {es : List Expr} {env : Env} {pos : Pos} (h : es.any isStar = false) : (backTo pos (starEach es env)).any (·.1) = false := by
  induction es with
  | nil => rfl
  | cons e r ih =>
    rw [List.any_cons, Bool.or_eq_false_iff] at h
    rw [starEach_cons h.1]
    show (false || (backTo pos (starEach r env)).any (·.1)) = false
    rw [ih h.2]
    rfl
theorem pa_args (g : Gd τ G call X c k W) {ev : Expr → Sl → Hs → Res D} (ih : ∀ e, PE X e (tE τ X.K X.mg W (ev e))) : ∀ es : List Expr, PA X es (tA τ X.K X.mg W (argsE ev es))
  | [] => pa_nil.imp fun σ H Q p => by
    obtain ⟨α, F, h, s, a, p⟩ := p
    exact p.ok a.1 .nil
  | e :: r => by
    by_cases he : isStar e = true
    · refine .no fun σ H Q => tR_bad fun s h => ?_
      cases e <;> first | rfl | cases he
    · have he' : isStar e = false := by simpa using he
      refine (pa_cons (ih e) (pa_args g ih r) (starEach_cons he')).imp fun σ H Q p => ?_
      have e1 : argsE ev (e :: r) = fun s h => (ev e s h).bind fun x h1 => (argsE ev r s h1).bind fun xs h2 => .ok (x :: xs) h2 := by
        funext s h
        cases e <;> first | rfl | cases he'
      rw [show tA τ X.K X.mg W (argsE ev (e :: r)) = tR τ X.K X.mg W (RDs X.K) (fun s h => (ev e s h).bind fun x h1 => (argsE ev r s h1).bind fun xs h2 => .ok (x :: xs) h2) by rw [← e1]] at p
      refine tR.seq p fun α F H h s d x a r p => ?_
      refine RP.seq (rel := RDs X.K) a p fun α' F' H' h' ds vs x' a' rs p => ?_
      exact p.ok a'.1 (.cons (x'.rd r) rs)
theorem pe_tuple (g : Gd τ G call X c k W) {es : List Expr} {j : Nat} {pos : Pos} {fs : Sl → Hs → Res (List D)} (ha : PA X es (tA τ X.K X.mg W fs)) : PE X (.Tuple es j pos) (tE τ X.K X.mg W fun s h => (fs s h).bind mkT) := by
  refine (pe_tup ha).imp fun σ H Q p => ?_
  exact tR.seq p fun α F H h s d x a r p => RP.mkT a.1 r p
theorem pe_list (g : Gd τ G call X c k W) {es : List Expr} {pos : Pos} {fs : Sl → Hs → Res (List D)} (l : Bool) (ha : PA X es (tA τ X.K X.mg W fs)) : PE X (.List es pos) (tE τ X.K X.mg W fun s h => (fs s h).bind (mkL l)) := by
  refine (pe_lst ha).imp fun σ H Q p => ?_
  exact tR.seq p fun α F H h s d x a r p => RP.mkL a.1 r p

/-! ### subscripts -/
theorem plainIx {b : Expr} (h : isSlice b = false) : PlainIx b := by
  intro o i
  cases b <;> first | rfl | cases h
theorem pe_sub (g : Gd τ G call X c k W) {a b : Expr} {pos : Pos} {fa fb : Sl → Hs → Res D} (hs : isSlice b = false) (ha : PE X a (tE τ X.K X.mg W fa)) (hb : PE X b (tE τ X.K X.mg W fb)) :
    PE X (.Subscript a b pos) (tE τ X.K X.mg W fun s h => (fa s h).bind fun x h1 => (fb s h1).bind fun y h2 => ixD x y h2) := by
  refine (pe_ix (ix_D (τ := τ) (mg := X.mg) rfl) ha hb (plainIx hs)).imp fun σ H Q p => ?_
  refine tR.seq p fun α F H h s d x a r p => ?_
  refine RP.seq (rel := RD X.K) a p fun α' F' H' h' e y x' a' r' p => ?_
  exact ⟨_, _, _, _, _, _, a'.1, x'.rd r, r', p⟩
def relO : Al → Hp → Option Int → Option Int → Prop := fun _ _ a b => a = b
theorem _root_.L2.PO.imp {X : Cx} {e : Option Expr} {t t' : TO} (p : PO X e t) (i : ∀ σ H Q, t' σ H Q → t σ H Q) : PO X e t' := ⟨fun pins s σ H Q I q => p.run pins s σ H Q I (i σ H Q q)⟩
theorem po_part (g : Gd τ G call X c k W) {ev : Expr → Sl → Hs → Res D} (ih : ∀ e, PE X e (tE τ X.K X.mg W (ev e))) : ∀ o : Option Expr, PO X o (tR τ X.K X.mg W relO (partE ev o))
  | none => po_none.imp fun σ H Q p => by
    obtain ⟨α, F, h, s, a, p⟩ := p
    exact p.ok a.1 rfl
  | some e => (po_some (ih e)).imp fun σ H Q p => by
    refine tR.seq (g := fun s x h1 => match x with | .int i => .ok (some i) h1 | _ => .bad) p fun α F H h s d x a r p => ?_
    split at p
    · cases r
      exact ⟨_, rfl, p.ok a.1 rfl⟩
    · exact p.elim
theorem pe_cut (g : Gd τ G call X c k W) {a : Expr} {lo hi : Option Expr} {pos p2 : Pos} {fa : Sl → Hs → Res D} {fl fh : Sl → Hs → Res (Option Int)} (l : Bool) (ha : PE X a (tE τ X.K X.mg W fa)) (hl : PO X lo (tR τ X.K X.mg W relO fl)) (hh : PO X hi (tR τ X.K X.mg W relO fh)) :
    PE X (.Subscript a (.Slice lo hi none p2) pos) (tE τ X.K X.mg W fun s h => (fa s h).bind fun x h1 => (fl s h1).bind fun i h2 => (fh s h2).bind fun j h3 => slD l x i j h3) := by
  refine (pe_slice (sl_D (τ := τ) (mg := X.mg) rfl l) ha hl hh).imp fun σ H Q p => ?_
  refine tR.seq p fun α F H h s d x a r p => ?_
  refine RP.seq (rel := relO) a p fun α1 F1 H1 h1 i i' x1 a1 r1 p => ?_
  have r1' : i = i' := r1
  subst r1'
  refine RP.seq (rel := relO) a1 p fun α2 F2 H2 h2 j j' x2 a2 r2 p => ?_
  have r2' : j = j' := r2
  subst r2'
  exact ⟨_, _, _, _, _, a2.1, (x1.trans x2).rd r, p⟩
end
end Bk

/-! BkRules2: comparisons in a row, tests, calls. -/
namespace Bk
open PySem PySem.Spec PyProof.Rows L2

theorem noMark {op : CmpOp} {e : Expr} (h : isSet e = false) : behindInMarks op e = false := by
  cases e <;> first | rfl | cases h
theorem noLast : ∀ {ops : List CmpOp} {es : List Expr}, es.any isSet = false → lastMarks ops es = false
  | [], _, _ => rfl
  | [_], [], _ => rfl
  | [op], [e], h => noMark (by simpa using h)
  | [_], e :: e' :: es, h => by
    rw [List.any_cons, Bool.or_eq_false_iff] at h
    show lastMarks [] (e' :: es) = false
    rfl
  | _ :: _ :: _, [], _ => rfl
  | _ :: op :: ops, e :: es, h => by
    rw [List.any_cons, Bool.or_eq_false_iff] at h
    show lastMarks (op :: ops) es = false
    exact noLast h.2
section
variable {G : Cfg} {call : Str → List D → Hs → Res D} {X : Cx} {c : Ctx} {k : Nat} {W : WX} {S : Sm}
theorem evEach (es : List Expr) (env : Env) : evalEach es env = es.map fun e => eval e env := by
  induction es with
  | nil => rfl
  | cons e r ih =>
    show eval e env :: evalEach r env = _
    rw [ih]; rfl
theorem cmpR_ok {K : PySem.W.Frag} {mg : Str → Option Value} {E : XK} {α : Al} {F H : Hp} {h : Hs} {op : CmpOp} {x y : D} {C C' : Type} {rel : Al → Hp → C → C' → Prop} {f : D → Hs → Res C} {Q : C' → Hp → Prop}
    (p : RP τ K mg E rel α F H ((cmpR op x y h).bind f) Q) : ∃ b, cmpR op x y h = .ok (.bl b) h ∧ RP τ K mg E rel α F H (f (.bl b) h) Q := by
  unfold cmpR at p ⊢
  cases hb : cmpD op x y h with
  | none => rw [hb] at p; exact p.elim
  | some b => rw [hb] at p; exact ⟨b, rfl, p⟩
/-- the rest of a chain, its left value known -/
theorem chain_ok (g : Gd τ G call X c k W) {ev : Expr → Sl → Hs → Res D} (ih : ∀ e, PE X e (tE τ X.K X.mg W (ev e))) {pos : Pos} : ∀ (ops : List CmpOp) (es : List Expr) {pins : List (Addr × Obj)} {sh : Shared} {σ : St} {α : Al} {F H : Hp} {h : Hs} {s : Sl} {d : D} {x : V} {v : Value} {Q : VK}, ops.length = es.length →
    Inv X pins σ H sh → At τ X.K α F H h s σ → RD X.K α F d x → RelV x v → RP τ X.K X.mg (fun c d H => W c d σ H) (RD X.K) α F H (chainE ev d ops es s h) Q →
    wpAny (model X.prog X.w) X.A (compareChain pos v ops (es.map fun e => eval e X.env)) (EP X pins σ Q) X.xe sh
  | [], _, _, _, _, _, _, _, _, _, _, _, _, _, _, _, _, _, _, p => by cases p
  | _ :: _, [], _, _, _, _, _, _, _, _, _, _, _, _, _, _, _, _, _, p => by cases p
  | op :: ops, e :: es, pins, sh, σ, α, F, H, h, s, d, x, v, Q, hl, I, a, rd, rv, p => by
    have key := RP.seq (rel := RD X.K) (f := ev e) (Z := fun y H1 => ∃ α F h d e b, At τ X.K α F H1 h s σ ∧ RD X.K α F d x ∧ RD X.K α F e y ∧ cmpR op d e h = .ok (.bl b) h ∧
      RP τ X.K X.mg (fun c d H => W c d σ H) (RD X.K) α F H1 (chainK ops.isEmpty (.bl b) h fun h3 => chainE ev e ops es s h3) Q)
      (g := fun y h1 => (cmpR op d y h1).bind fun z h2 => chainK ops.isEmpty z h2 fun h3 => chainE ev y ops es s h3) a p fun α' F' H' h' e' y x' a' r' p => by
      obtain ⟨b, hb, p⟩ := cmpR_ok p
      exact ⟨α', F', h', d, e', b, a', x'.rd rd, r', hb, p⟩
    have run := (ih e).run pins sh σ H _ I key
    cases ops with
    | nil =>
      cases es with
      | nil =>
        refine chain_last (thn run fun u s2 ⟨y, H2, I2, r2, α, F, h, d, e', b, a, rd, re, hb, p⟩ => ?_)
        refine op_cmpR (τ := τ) (mg := X.mg) rfl g.hu op pins s2 σ H2 x y v u Q I2 rv r2 ⟨fun c d H => W c d σ H, α, F, h, d, e', a.1, rd, re, ?_⟩
        rw [hb]
        exact p
      | cons e2 es => simp at hl
    | cons op2 ops =>
      cases es with
      | nil => simp at hl
      | cons e2 es =>
        refine chain_link (thn run fun u s2 ⟨y, H2, I2, r2, α, F, h, d, e', b, a, rd, re, hb, p⟩ => ?_)
        refine thn (op_cmpR (τ := τ) (mg := X.mg) rfl g.hu op pins s2 σ H2 x y v u (fun z H3 => ∃ α F h, At τ X.K α F H3 h s σ ∧ RD X.K α F e' y ∧ z = .bl b ∧ RP τ X.K X.mg (fun c d H => W c d σ H) (RD X.K) α F H3 (chainK false (.bl b) h fun h3 => chainE ev e' (op2 :: ops) (e2 :: es) s h3) Q)
          I2 rv r2 ⟨fun c d H => W c d σ H, α, F, h, d, e', a.1, rd, re, ?_⟩) fun z s3 ⟨z', H3, I3, r3, α3, F3, h3, a3, re3, ez, p3⟩ => ?_
        · rw [hb]
          intro α' F' H' v' x' w' rv'
          cases rv'
          exact ⟨α', F', h, a.ext x' w', x'.rd re, rfl, p.ext x'⟩
        · subst ez
          cases r3
          refine wpAny_truthy_bool ?_
          cases b with
          | false => exact ite_ff ⟨.bl false, H3, I3, rfl, p3.ok a3.1 (.bl _)⟩
          | true => exact ite_tt (chain_ok g ih (op2 :: ops) (e2 :: es) (by simpa using hl) I3 a3 re3 r2 p3)
theorem pe_compare (g : Gd τ G call X c k W) {ev : Expr → Sl → Hs → Res D} (ih : ∀ e, PE X e (tE τ X.K X.mg W (ev e))) {a : Expr} {ops : List CmpOp} {es : List Expr} {pos : Pos} (hn : ops.isEmpty = false) (hs : es.any isSet = false) (hl : ops.length = es.length) :
    PE X (.Compare a ops es pos) (tE τ X.K X.mg W fun s h => (ev a s h).bind fun x h1 => chainE ev x ops es s h1) := by
  match ops, es, hn, hl with
  | [op], [e], _, _ =>
    refine (pe_cmpR (op_cmpR (τ := τ) (mg := X.mg) rfl g.hu op) (ih a) (ih e) (noMark (by simpa using hs))).imp fun σ H Q p => ?_
    refine tR.seq p fun α F H h s d x a r p => ?_
    refine RP.seq (rel := RD X.K) (f := ev e) a p fun α' F' H' h' e y x' a' r' p => ?_
    refine ⟨fun c d H => W c d σ H, _, _, _, _, _, a'.1, x'.rd r, r', ?_⟩
    obtain ⟨b, hb, p⟩ := cmpR_ok p
    rw [hb]
    exact p
  | op :: op2 :: ops, e :: e2 :: es, _, hl =>
    refine ⟨fun pins sh σ H Q I p => ?_⟩
    have key := tR.seq (rel := RD X.K) (f := ev a) (Z := fun y H1 => ∃ α F h s d, At τ X.K α F H1 h s σ ∧ RD X.K α F d y ∧ RP τ X.K X.mg (fun c d H => W c d σ H) (RD X.K) α F H1 (chainE ev d (op :: op2 :: ops) (e :: e2 :: es) s h) Q)
      p fun α F H h s d b a r p => ⟨α, F, h, s, d, a, r, p⟩
    have run := (ih a).run pins sh σ H _ I key
    refine Compare_chain (thn run fun v s1 ⟨x, H1, I1, r1, α, F, h, s, d, a, r, p⟩ => ?_) (noLast hs)
    have := chain_ok g ih (pos := pos) (op :: op2 :: ops) (e :: e2 :: es) hl I1 a r r1 p
    rw [List.map_cons, List.map_cons, ← evEach] at this
    exact this

/-! ### tests -/
theorem pt_ofVal (g : Gd τ G call X c k W) {e : Expr} {f : Sl → Hs → Res D} (he : PE X e (tE τ X.K X.mg W f)) (hp : ∀ whole, isTrue e X.env whole = (do let v ← whole; standAt e.pos; holding [v] (truthy v))) :
    PT X e (tT τ X.K X.mg W fun s h => (f s h).bind truthR) := by
  refine (pt_truth he hp).imp fun σ H Q p => ?_
  refine tR.seq p fun α F H h s d x a r p => ?_
  have p : RP τ X.K X.mg (fun c d H => W c d σ H) relB α F H ((truthR d h).bind fun b h => .ok b h) Q := by
    revert p
    unfold truthR
    cases truth d h <;> exact id
  obtain ⟨b, hb, p⟩ := truthR_ok a.1 r p
  exact ⟨b, hb, p.ok a.1 rfl⟩
theorem pt_notD (g : Gd τ G call X c k W) {a : Expr} {pos : Pos} {f : Sl → Hs → Res Bool} (ha : PT X a (tT τ X.K X.mg W f)) : PT X (.UnaryOp .Not a pos) (tT τ X.K X.mg W fun s h => (f s h).bind fun b h1 => .ok (!b) h1) := by
  refine (pt_not ha).imp fun σ H Q p => ?_
  refine tR.seq p fun α F H h s d b a r p => ?_
  have r' : d = b := r
  subst r'
  exact p.ok a.1 rfl
theorem pw_bool (g : Gd τ G call X c k W) {op : BoolOp} {pos : Pos} {tv : Expr → Sl → Hs → Res Bool} (ih : ∀ e, PT X e (tT τ X.K X.mg W (tv e))) : ∀ es : List Expr, es.isEmpty = false → PW X (.BoolOp op es pos) (tT τ X.K X.mg W (boolT tv op es))
  | [], h => by cases h
  | [e], _ => by
    cases op with
    | And => exact (pw_and1 (ih e)).imp fun σ H Q p => p
    | Or => exact (pw_or1 (ih e)).imp fun σ H Q p => p
  | a :: b :: r, _ => by
    have hb := pw_bool (pos := pos) (op := op) g ih (b :: r) rfl
    cases op with
    | And =>
      refine (pw_and (ih a) hb).imp fun σ H Q p => ?_
      refine tR.seq p fun α F H h s d x a r p => ?_
      have r' : d = x := r
      subst r'
      cases d with
      | true => exact iteT (RP.start a p)
      | false => exact iteF (p.ok a.1 rfl)
    | Or =>
      refine (pw_or (ih a) hb).imp fun σ H Q p => ?_
      refine tR.seq p fun α F H h s d x a r p => ?_
      have r' : d = x := r
      subst r'
      cases d with
      | true => exact iteT (p.ok a.1 rfl)
      | false => exact iteF (RP.start a p)
theorem pt_bool (g : Gd τ G call X c k W) {op : BoolOp} {pos : Pos} {tv : Expr → Sl → Hs → Res Bool} (ih : ∀ e, PT X e (tT τ X.K X.mg W (tv e))) (es : List Expr) : PT X (.BoolOp op es pos) (tT τ X.K X.mg W (boolT tv op es)) := by
  cases es with
  | nil => exact .no fun σ H Q => tR_bad fun s h => rfl
  | cons e r => exact (pw_bool g ih (e :: r) rfl).pt
/-- a test that is one comparison, or several in a row -/
theorem testchain_ok (g : Gd τ G call X c k W) {ev : Expr → Sl → Hs → Res D} (ih : ∀ e, PE X e (tE τ X.K X.mg W (ev e))) {pos : Pos} : ∀ (ops : List CmpOp) (es : List Expr) {pins : List (Addr × Obj)} {sh : Shared} {σ : St} {α : Al} {F H : Hp} {h : Hs} {s : Sl} {d : D} {x : V} {v : Value} {Q : Bool → Hp → Prop}, ops.length = es.length →
    Inv X pins σ H sh → At τ X.K α F H h s σ → RD X.K α F d x → RelV x v → RP τ X.K X.mg (fun c d H => W c d σ H) relB α F H ((chainE ev d ops es s h).bind fun z h => match z with | .bl b => .ok b h | _ => .bad) Q →
    wpAny (model X.prog X.w) X.A (testChain pos v ops (es.map fun e => eval e X.env)) (TP X pins σ Q) X.xe sh
  | [], _, _, _, _, _, _, _, _, _, _, _, _, _, _, _, _, _, _, p => by cases p
  | _ :: _, [], _, _, _, _, _, _, _, _, _, _, _, _, _, _, _, _, _, p => by cases p
  | op :: ops, e :: es, pins, sh, σ, α, F, H, h, s, d, x, v, Q, hl, I, a, rd, rv, p => by
    have assoc : ∀ {A B C : Type} (r : Res A) (f : A → Hs → Res B) (k : B → Hs → Res C), (r.bind f).bind k = r.bind fun a h => (f a h).bind k := by
      intro A B C r f k; cases r <;> rfl
    have p : RP τ X.K X.mg (fun c d H => W c d σ H) relB α F H ((ev e s h).bind fun y h1 => (cmpR op d y h1).bind fun z h2 => (chainK ops.isEmpty z h2 fun h3 => chainE ev y ops es s h3).bind fun z h => match z with | .bl b => .ok b h | _ => .bad) Q := by
      have e1 : (chainE ev d (op :: ops) (e :: es) s h).bind (fun z h => match z with | .bl b => Res.ok b h | _ => .bad) = (ev e s h).bind fun y h1 => (cmpR op d y h1).bind fun z h2 => (chainK ops.isEmpty z h2 fun h3 => chainE ev y ops es s h3).bind fun z h => match z with | .bl b => .ok b h | _ => .bad := by
        show ((ev e s h).bind _).bind _ = _
        rw [assoc]
        congr 1
        funext y h1
        rw [assoc]
      rw [← e1]; exact p
    have key := RP.seq (rel := RD X.K) (f := ev e) (Z := fun y H1 => ∃ α F h d e b, At τ X.K α F H1 h s σ ∧ RD X.K α F d x ∧ RD X.K α F e y ∧ cmpR op d e h = .ok (.bl b) h ∧
      RP τ X.K X.mg (fun c d H => W c d σ H) relB α F H1 ((chainK ops.isEmpty (.bl b) h fun h3 => chainE ev e ops es s h3).bind fun z h => match z with | .bl b => .ok b h | _ => .bad) Q)
      (g := fun y h1 => (cmpR op d y h1).bind fun z h2 => (chainK ops.isEmpty z h2 fun h3 => chainE ev y ops es s h3).bind fun z h => match z with | .bl b => .ok b h | _ => .bad) a p fun α' F' H' h' e' y x' a' r' p => by
      obtain ⟨b, hb, p⟩ := cmpR_ok p
      exact ⟨α', F', h', d, e', b, a', x'.rd rd, r', hb, p⟩
    have run := (ih e).run pins sh σ H _ I key
    have cmp : ∀ {s2 : Shared} {u : Value} {y : V} {H2 : Hp} {α : Al} {F : Hp} {h : Hs} {d e' : D} {b : Bool}, Inv X pins σ H2 s2 → RelV y u → At τ X.K α F H2 h s σ → RD X.K α F d x → RD X.K α F e' y → cmpR op d e' h = .ok (.bl b) h →
      ∀ {o : Res Bool}, RP τ X.K X.mg (fun c d H => W c d σ H) relB α F H2 o Q →
      wpAny (model X.prog X.w) X.A (compareOp op v u) (EP X pins σ fun z H3 => ∃ α F, At τ X.K α F H3 h s σ ∧ RD X.K α F e' y ∧ z = .bl b ∧ RP τ X.K X.mg (fun c d H => W c d σ H) relB α F H3 o Q) X.xe s2 := by
      intro s2 u y H2 α F h d e' b I2 r2 a rd re hb o p
      refine op_cmpR (τ := τ) (mg := X.mg) rfl g.hu op pins s2 σ H2 x y v u _ I2 rv r2 ⟨fun c d H => W c d σ H, α, F, h, d, e', a.1, rd, re, ?_⟩
      rw [hb]
      intro α' F' H' v' x' w' rv'
      cases rv'
      exact ⟨α', F', a.ext x' w', x'.rd re, rfl, p.ext x'⟩
    cases ops with
    | nil =>
      cases es with
      | nil =>
        refine test_last (thn run fun u s2 ⟨y, H2, I2, r2, α, F, h, d, e', b, a, rd, re, hb, p⟩ => ?_)
        refine thn (cmp I2 r2 a rd re hb p) fun z s3 ⟨z', H3, I3, r3, α3, F3, a3, re3, ez, p3⟩ => ?_
        subst ez
        cases r3
        exact wpAny_truthy_bool ⟨H3, I3, p3.ok a3.1 rfl⟩
      | cons e2 es => simp at hl
    | cons op2 ops =>
      cases es with
      | nil => simp at hl
      | cons e2 es =>
        refine test_link (thn run fun u s2 ⟨y, H2, I2, r2, α, F, h, d, e', b, a, rd, re, hb, p⟩ => ?_)
        refine thn (cmp I2 r2 a rd re hb p) fun z s3 ⟨z', H3, I3, r3, α3, F3, a3, re3, ez, p3⟩ => ?_
        subst ez
        cases r3
        refine wpAny_truthy_bool ?_
        cases b with
        | false => exact ite_ff ⟨H3, I3, p3.ok a3.1 rfl⟩
        | true => exact ite_tt (testchain_ok g ih (op2 :: ops) (e2 :: es) (by simpa using hl) I3 a3 re3 r2 p3)
theorem pt_compare (g : Gd τ G call X c k W) {ev : Expr → Sl → Hs → Res D} (ih : ∀ e, PE X e (tE τ X.K X.mg W (ev e))) {a : Expr} {ops : List CmpOp} {es : List Expr} {pos : Pos} (hn : ops.isEmpty = false) (hs : es.any isSet = false) (hl : ops.length = es.length) :
    PT X (.Compare a ops es pos) (tT τ X.K X.mg W fun s h => (ev a s h).bind fun x h1 => (chainE ev x ops es s h1).bind fun z h => match z with | .bl b => .ok b h | _ => .bad) := by
  match ops, es, hn, hl with
  | [op], [e], _, _ =>
    refine (pt_cmpR (op_cmpR (τ := τ) (mg := X.mg) rfl g.hu op) (ih a) (ih e) (noMark (by simpa using hs))).imp fun σ H Q p => ?_
    refine tR.seq p fun α F H h s d x a r p => ?_
    have p : RP τ X.K X.mg (fun c d H => W c d σ H) relB α F H ((ev e s h).bind fun y h1 => (cmpR op d y h1).bind fun z h2 => match z with | .bl b => .ok b h2 | _ => .bad) Q := by
      have e1 : (chainE ev d [op] [e] s h).bind (fun z h => match z with | .bl b => Res.ok b h | _ => .bad) = (ev e s h).bind fun y h1 => (cmpR op d y h1).bind fun z h2 => match z with | .bl b => .ok b h2 | _ => .bad := by
        show ((ev e s h).bind _).bind _ = _
        cases ev e s h with
        | ok y h1 =>
          show ((cmpR op d y h1).bind _).bind _ = (cmpR op d y h1).bind _
          cases cmpR op d y h1 <;> rfl
        | exc _ _ => rfl
        | bad => rfl
      rw [← e1]; exact p
    refine RP.seq (rel := RD X.K) (f := ev e) a p fun α' F' H' h' e y x' a' r' p => ?_
    refine ⟨fun c d H => W c d σ H, _, _, _, _, _, a'.1, x'.rd r, r', ?_⟩
    obtain ⟨b, hb, p⟩ := cmpR_ok p
    rw [hb]
    intro α2 F2 H2 v x2 w2 rv
    cases rv
    exact ⟨b, rfl, p α2 F2 H2 b x2 w2 rfl⟩
  | op :: op2 :: ops, e :: e2 :: es, _, hl =>
    refine ⟨fun pins sh σ H Q I p => ?_⟩
    have key := tR.seq (rel := RD X.K) (f := ev a) (Z := fun y H1 => ∃ α F h s d, At τ X.K α F H1 h s σ ∧ RD X.K α F d y ∧ RP τ X.K X.mg (fun c d H => W c d σ H) relB α F H1 ((chainE ev d (op :: op2 :: ops) (e :: e2 :: es) s h).bind fun z h => match z with | .bl b => .ok b h | _ => .bad) Q)
        p fun α F H h s d b a r p => ⟨α, F, h, s, d, a, r, p⟩
    have run := (ih a).run pins sh σ H _ I key
    refine isTrue_chain (thn run fun v s1 ⟨x, H1, I1, r1, α, F, h, s, d, a, r, p⟩ => ?_) (noLast hs)
    have := testchain_ok g ih (pos := pos) (op :: op2 :: ops) (e :: e2 :: es) hl I1 a r r1 p
    rw [List.map_cons, List.map_cons, ← evEach] at this
    exact this

/-! ### calls -/
theorem mem_of_lookup {β : Type} : ∀ {l : List (Str × β)} {x : Str} {k : β}, l.lookup x = some k → (x, k) ∈ l
  | [], _, _, e => by cases e
  | (y, v) :: r, x, k, e => by
    rw [List.lookup_cons] at e
    split at e
    · rename_i h
      cases e
      rw [eq_of_beq h]
      exact List.mem_cons_self
    · exact List.mem_cons_of_mem _ (mem_of_lookup e)
theorem bltOf_boot {x : Str} {k : Blt} (e : bltOf x = some k) : bootBuiltins x = some k.val := by
  have key : ∀ p ∈ bltTab, bootBuiltins p.1 = some p.2.val := by
    intro p hp
    simp only [bltTab, List.mem_cons, List.not_mem_nil, or_false] at hp
    rcases hp with rfl | rfl | rfl | rfl | rfl | rfl | rfl | rfl | rfl | rfl | rfl | rfl | rfl | rfl | rfl <;> rfl
  exact key _ (mem_of_lookup e)
theorem pe_blt (g : Gd τ G call X c k W) {x : Str} {p pos : Pos} {es : List Expr} {b : Blt} (l : Bool) {fs : Sl → Hs → Res (List D)} (hg : isGl c.sc x = true) (hm : x ∈ G.blts) (hv : bootBuiltins x = some b.val) (hn : es.isEmpty = false) (hs : es.any isStar = false) (ha : PA X es (tA τ X.K X.mg W fs)) :
    PE X (.Call (.Name x p) es [] pos) (tE τ X.K X.mg W fun s h => (fs s h).bind (bltD l b)) := by
  cases es with
  | nil => cases hn
  | cons e es =>
    rw [List.any_cons, Bool.or_eq_false_iff] at hs
    obtain ⟨n1, n2⟩ := g.top.nodbg x (.inr (.inr hm))
    have key : PE X (.Call (.Name x p) (e :: es) [] pos) (tCB (rBlt τ X.K X.mg l b) (tA τ X.K X.mg W fs)) := by
      have hc := blt_call (τ := τ) (K := X.K) (mg := X.mg) rfl g.calm g.hu l b
      have h1 := starEach_cons (env := X.env) (es := es) hs.1
      have h2 := noStar (env := X.env) (pos := pos) hs.2
      cases b <;> first
        | exact pe_callB hc (g.gl hg) (g.top.blts x hm) hv ha n2 n1 h1 h2
        | exact pe_callTy hc (g.gl hg) (g.top.blts x hm) hv ha n2 n1 h1 h2
    refine key.imp fun σ H Q p => ?_
    exact tR.seq p fun α F H h s d x a r p => ⟨_, _, _, _, _, a.1, r, p⟩
theorem pe_user (g : Gd τ G call X c k W) {x : Str} {p pos : Pos} {es : List Expr} {fs : Sl → Hs → Res (List D)} (hg : isGl c.sc x = true) (hd : (G.defs.lookup x).isSome = true) (hn : es.isEmpty = false) (hs : es.any isStar = false) (ha : PA X es (tA τ X.K X.mg W fs))
    (har : ∀ r, G.defs.lookup x = some r → ∀ ds h, ds.length ≠ r.ps.length → call x ds h = .bad) :
    PE X (.Call (.Name x p) es [] pos) (tE τ X.K X.mg W fun s h => (fs s h).bind (call x)) := by
  cases es with
  | nil => cases hn
  | cons e es =>
    rw [List.any_cons, Bool.or_eq_false_iff] at hs
    obtain ⟨r, hr⟩ := Option.isSome_iff_exists.mp hd
    obtain ⟨f, fd, h1, h2, h3, h4⟩ := g.top.defs x r hr
    refine (pe_callS h3 g.room (g.gl hg) h1 h2 h4 (fun σ => passAt g.tk σ) ha (g.top.nodbg x (.inl hd)).1 (starEach_cons hs.1) (noStar hs.2)).imp fun σ H Q p => ?_
    refine tR.seq p fun α F H h s d vs a rs p => ?_
    refine ⟨?_, α, F, h, d, a.1, rs, p⟩
    by_cases hl : d.length = r.ps.length
    · rw [← rs.length]; exact hl
    · rw [har r hr d h hl] at p; exact p.elim
theorem pe_isTup (g : Gd τ G call X c k W) {p pos tp : Pos} {a : Expr} {ts : List Expr} {j : Nat} {fa : Sl → Hs → Res D} {fs : Sl → Hs → Res (List D)} (hg : isGl c.sc "isinstance" = true) (hm : ("isinstance" : Str) ∈ G.blts) (hs : isStar a = false) (ha : PE X a (tE τ X.K X.mg W fa)) (hb : PA X ts (tA τ X.K X.mg W fs)) :
    PE X (.Call (.Name "isinstance" p) [a, .Tuple ts j tp] [] pos) (tE τ X.K X.mg W fun s h => (fa s h).bind fun v h1 => (fs s h1).bind fun us h2 => match (tyD v h2).bind fun t => isTys t us with
        | some b => if us.length ≤ sizeLine then .ok (.bl b) h2 else .bad
        | none => .bad) := by
  refine (pe_callB call_isiT (g.gl hg) (g.top.blts _ hm) rfl (pa_cons ha (pa_cons (pe_tup hb) pa_nil) (starEach_cons hs)) (by decide) (by decide) (starEach_cons hs) rfl).imp fun σ H Q p => ?_
  refine tR.seq p fun α F H h s d v a r p => ?_
  refine RP.seq (rel := RDs X.K) (f := fs) a p fun α' F' H' h' ds vs x' a' rs p => ?_
  split at p
  · rename_i b hb
    split at p
    · rename_i hz
      refine ⟨by rw [← rs.length]; exact hz, fun q hq => ?_⟩
      obtain ⟨t, h1, h2⟩ := Option.bind_eq_some_iff.mp hb
      obtain ⟨ws, p1, p2⟩ := isTys_ok (K := X.K) rs h2
      obtain ⟨w', x2, e'⟩ := a'.1.newF hq (.tup vs)
      refine ⟨v, q, vs, .type t, ws, b, rfl, upd_same, p1, tyD_ok w' (x2.rd (x'.rd r)) h1, p2, ?_⟩
      exact p _ _ _ _ x2 w' (.bl b)
    · exact p.elim
  · exact p.elim
theorem few_ok {es : List Expr} {env : Env} {pos : Pos} (h1 : es.any isStar = false) (h2 : ¬ es.length ≥ 29) :
    ((backTo pos (starEach es env)).all (fun x => !x.1) && (backToKw pos (keywordEach [] env)).all (fun x => x.1.isSome) && decide (es.length + ([] : List Keyword).length + (if ([] : List Keyword).isEmpty then 0 else 1) < 30)) = true := by
  have a : (backTo pos (starEach es env)).all (fun x => !x.1) = true := by
    have := noStar (env := env) (pos := pos) h1
    rw [List.any_eq_false] at this
    rw [List.all_eq_true]
    intro x hx
    have := this x hx
    simpa using this
  rw [a]
  have b : decide (es.length + ([] : List Keyword).length + (if ([] : List Keyword).isEmpty then 0 else 1) < 30) = true := by simp; omega
  rw [b]
  rfl
theorem pe_mth (g : Gd τ G call X c k W) {o : Expr} {m : Str} {ap pos : Pos} {es : List Expr} {q : Mth} {fo : Sl → Hs → Res D} {ev : Expr → Sl → Hs → Res D} (ih : ∀ e, PE X e (tE τ X.K X.mg W (ev e))) (h0 : isCall0 o = false) (h1 : (ap.endLine == pos.line) = true) (h2 : ¬ es.length ≥ 29) (h3 : es.any isStar = false) (hq : mthOf m = some q)
    (ho : PE X o (tE τ X.K X.mg W fo)) :
    PE X (.Call (.Attribute o m ap) es [] pos) (tE τ X.K X.mg W fun s h => (fo s h).bind fun x h1 => if (x.own h1).isSome then (argsE ev es s h1).bind fun ys h2 => mthD q x ys h2 else .bad) := by
  obtain ⟨rfl, hne⟩ := mthOf_name hq
  have ty : ∀ {α : Al} {F H : Hp} {h : Hs} {d : D} {v : V}, Wd τ X.K α F H h → RD X.K α F d v → (d.own h).isSome = true → tyV X.K "list" v H := by
    intro α F H h d v w r e
    obtain ⟨xs, hx⟩ := Option.isSome_iff_exists.mp e
    obtain ⟨a, vs, rfl, f, _⟩ := own_of w r hx
    exact .inl ⟨rfl, _, .of f⟩
  cases es with
  | nil =>
    refine (pe_bm0 PySem.F.plainAttrs_list (slot_of q hne) (type_of q hne) (mt_D (τ := τ) (mg := X.mg) rfl g.hu q) ho (attrBase h0) h1).imp fun σ H Q p => ?_
    refine tR.seq p fun α F H h s d x a r p => ?_
    split at p
    · rename_i hs
      refine ⟨ty a.1 r hs, ?_⟩
      exact ⟨_, _, _, _, _, _, a.1, r, .nil, p⟩
    · exact p.elim
  | cons e es =>
    rw [List.any_cons, Bool.or_eq_false_iff] at h3
    refine (pe_bm PySem.F.plainAttrs_list (slot_of q hne) (type_of q hne) (mt_D (τ := τ) (mg := X.mg) rfl g.hu q) ho (pa_args g ih (e :: es)) (attrBase h0) (few_ok (by rw [List.any_cons, Bool.or_eq_false_iff]; exact h3) h2) h1 (starEach_cons h3.1) (noStar h3.2)).imp fun σ H Q p => ?_
    refine tR.seq p fun α F H h s d x a r p => ?_
    split at p
    · rename_i hs
      refine ⟨ty a.1 r hs, ?_⟩
      exact RP.seq (rel := RDs X.K) (f := argsE ev (e :: es)) a p fun α' F' H' h' ds vs x' a' rs p => ⟨_, _, _, _, _, _, a'.1, x'.rd r, rs, p⟩
    · exact p.elim
end
end Bk

/-! BkRules3: targets, what is walked, comprehensions. -/
namespace Bk
open PySem PySem.Spec PyProof.Rows L2

theorem _root_.L2.PG.imp {X : Cx} {e : Expr} {t t' : TG} (p : PG X e t) (i : ∀ v σ H Q, t' v σ H Q → t v σ H Q) : PG X e t' := ⟨fun pins s σ H v u Q I r q => p.run pins s σ H v u Q I r (i v σ H Q q)⟩
theorem _root_.L2.PGs.imp {X : Cx} {e : List Expr} {t t' : TGs} (p : PGs X e t) (i : ∀ v σ H Q, t' v σ H Q → t v σ H Q) : PGs X e t' := ⟨fun pins s σ H v u Q I r q => p.run pins s σ H v u Q I r (i v σ H Q q)⟩
theorem _root_.L2.PG.no {X : Cx} {e : Expr} {t : TG} (i : ∀ v σ H Q, ¬ t v σ H Q) : PG X e t := ⟨fun pins s σ H v u Q I r q => absurd q (i v σ H Q)⟩
theorem _root_.L2.PGs.no {X : Cx} {e : List Expr} {t : TGs} (i : ∀ v σ H Q, ¬ t v σ H Q) : PGs X e t := ⟨fun pins s σ H v u Q I r q => absurd q (i v σ H Q)⟩
theorem _root_.L2.PG.or {X : Cx} {e : Expr} {t t' : TG} (p : PG X e t) (p' : PG X e t') : PG X e fun v σ H Q => t v σ H Q ∨ t' v σ H Q :=
  ⟨fun pins s σ H v u Q I r q => q.elim (p.run pins s σ H v u Q I r) (p'.run pins s σ H v u Q I r)⟩
theorem _root_.L2.PI.imp {X : Cx} {tg e : Expr} {t t' : TI} (p : PI X tg e t) (i : ∀ σ H R, t' σ H R → t σ H R) : PI X tg e t' := ⟨fun pins s σ H R I q => p.run pins s σ H R I (i σ H R q)⟩

section
variable {K : PySem.W.Frag} {mg : Str → Option Value} {α α' : Al} {F F' H H' : Hp} {h h' : Hs} {s : Sl} {σ : St} {E : XK} {W : WX}
theorem SR.set (r : SR K α F s σ) {i : Nat} {d : D} {v : V} (q : RD K α F d v) : SR K α F (s.set i (some d)) (σ.set i (some v)) := by
  refine ⟨by simp [r.1], fun j e hj => ?_⟩
  by_cases hi : j = i
  · subst hi
    have hl : j < s.length := by
      have := (List.getElem?_eq_some_iff.mp hj).1
      simpa using this
    rw [List.getElem?_set_self hl] at hj
    cases hj
    exact ⟨v, List.getElem?_set_self (by rw [← r.1]; exact hl), q⟩
  · rw [List.getElem?_set_ne (Ne.symm hi)] at hj
    obtain ⟨u, e1, r1⟩ := r.2 j e hj
    exact ⟨u, by rw [List.getElem?_set_ne (Ne.symm hi)]; exact e1, r1⟩
/-- the same outside the places ix -/
def Off (ix : List Nat) (σ σ' : St) : Prop := σ'.length = σ.length ∧ ∀ i, i ∉ ix → σ'[i]? = σ[i]?
theorem Off.refl {ix : List Nat} {σ : St} : Off ix σ σ := ⟨rfl, fun _ _ => rfl⟩
theorem Off.trans {ix : List Nat} {σ σ' σ'' : St} (a : Off ix σ σ') (b : Off ix σ' σ'') : Off ix σ σ'' := ⟨b.1.trans a.1, fun i hi => (b.2 i hi).trans (a.2 i hi)⟩
theorem wipe_get : ∀ {vs : List Nat} {σ : St} {i : Nat}, (wipe σ vs)[i]? = if i ∈ vs ∧ i < σ.length then some none else σ[i]?
  | [], σ, i => by simp [wipe]
  | v :: vs, σ, i => by
    show ((wipe σ vs).set v none)[i]? = _
    by_cases hv : i = v
    · subst hv
      by_cases hl : i < σ.length
      · rw [List.getElem?_set_self (by rw [wipe_length]; exact hl), if_pos ⟨List.mem_cons_self, hl⟩]
      · rw [if_neg (fun z => hl z.2), List.getElem?_eq_none (by simp [wipe_length]; omega), List.getElem?_eq_none (by omega)]
    · rw [List.getElem?_set_ne (Ne.symm hv), wipe_get]
      by_cases hm : i ∈ vs ∧ i < σ.length
      · rw [if_pos hm, if_pos ⟨List.mem_cons_of_mem _ hm.1, hm.2⟩]
      · rw [if_neg hm, if_neg (fun z => hm ⟨(List.mem_cons.mp z.1).resolve_left hv, z.2⟩)]
theorem Off.wipe {ix : List Nat} {σ σ' : St} (a : Off ix (wipe σ ix) σ') : L2.wipe σ' ix = L2.wipe σ ix := by
  refine List.ext_getElem? fun i => ?_
  have hl : σ'.length = σ.length := by rw [a.1, wipe_length]
  rw [wipe_get, wipe_get, hl]
  by_cases hm : i ∈ ix ∧ i < σ.length
  · rw [if_pos hm, if_pos hm]
  · rw [if_neg hm, if_neg hm]
    by_cases hi : i ∈ ix
    · have : ¬ i < σ.length := fun z => hm ⟨hi, z⟩
      rw [List.getElem?_eq_none (by omega), List.getElem?_eq_none (by omega)]
    · rw [a.2 i hi, wipe_get, if_neg (fun z => hi z.1)]
theorem SR.clear (r : SR K α F s σ) : ∀ cl : List Nat, SR K α F (clear s cl) σ
  | [] => r
  | i :: cl => by
    have q := SR.clear r cl
    refine ⟨by show ((Bk.clear s cl).set i none).length = _; simp [q.1], fun j d hj => ?_⟩
    have hj : ((Bk.clear s cl).set i none)[j]? = some (some d) := hj
    by_cases hi : j = i
    · subst hi
      have hl : j < (Bk.clear s cl).length := by
        have := (List.getElem?_eq_some_iff.mp hj).1
        simpa using this
      rw [List.getElem?_set_self hl] at hj
      cases hj
    · rw [List.getElem?_set_ne (Ne.symm hi)] at hj
      exact q.2 j d hj
theorem clear_get : ∀ {vs : List Nat} {s : Sl} {i : Nat}, (clear s vs)[i]? = if i ∈ vs ∧ i < s.length then some none else s[i]?
  | [], s, i => by simp [clear]
  | v :: vs, s, i => by
    have hlen : (clear s vs).length = s.length := by
      clear i
      induction vs with
      | nil => rfl
      | cons w r ih => show ((clear s r).set w none).length = _; simp [ih]
    show ((clear s vs).set v none)[i]? = _
    by_cases hv : i = v
    · subst hv
      by_cases hl : i < s.length
      · rw [List.getElem?_set_self (by rw [hlen]; exact hl), if_pos ⟨List.mem_cons_self, hl⟩]
      · rw [if_neg (fun z => hl z.2), List.getElem?_eq_none (by simp [hlen]; omega), List.getElem?_eq_none (by omega)]
    · rw [List.getElem?_set_ne (Ne.symm hv), clear_get]
      by_cases hm : i ∈ vs ∧ i < s.length
      · rw [if_pos hm, if_pos ⟨List.mem_cons_of_mem _ hm.1, hm.2⟩]
      · rw [if_neg hm, if_neg (fun z => hm ⟨(List.mem_cons.mp z.1).resolve_left hv, z.2⟩)]
theorem clear_len : ∀ (vs : List Nat) (s : Sl), (clear s vs).length = s.length
  | [], _ => rfl
  | v :: vs, s => by show ((clear s vs).set v none).length = _; simp [clear_len vs s]
/-- a comprehension's own names are nothing at its turns' start -/
theorem SR.wiped (r : SR K α F s σ) (ix : List Nat) : SR K α F (Bk.clear s ix) (L2.wipe σ ix) := by
  refine ⟨by rw [clear_len, wipe_length]; exact r.1, fun i d e => ?_⟩
  rw [clear_get] at e
  split at e
  · cases e
  · rename_i hn
    obtain ⟨v, e1, r1⟩ := r.2 i d e
    refine ⟨v, ?_, r1⟩
    rw [wipe_get, if_neg (by rw [← r.1]; exact hn)]
    exact e1
end

section
variable {G : Cfg} {call : Str → List D → Hs → Res D} {X : Cx} {c : Ctx} {k : Nat} {W : WX} {S : Sm}
theorem Gd.loc (g : Gd τ G call X c k W) {x : Str} (e : stoN c x = true) : Loc X.env.scope x := by
  unfold stoN at e
  rw [← g.sc] at e
  split at e
  · rename_i h; exact .inl h
  · rename_i h; exact .inr h
  · cases e
/-- names, and tuples of names -/
def tGn (τ : List Addr) (K : PySem.W.Frag) (ix : List Nat) (f : Hs → D → Sl → Option Sl) : TG := fun v σ H Q => ∃ α F h s d s', At τ K α F H h s σ ∧ RD K α F d v ∧ f h d s = some s' ∧ ∀ σ', SR K α F s' σ' → Off ix σ σ' → Q σ' H
def tGsn (τ : List Addr) (K : PySem.W.Frag) (ix : List Nat) (f : Hs → List D → Sl → Option Sl) : TGs := fun v σ H Q => ∃ α F h s d s', At τ K α F H h s σ ∧ RDs K α F d v ∧ f h d s = some s' ∧ ∀ σ', SR K α F s' σ' → Off ix σ σ' → Q σ' H
theorem setN_ok (g : Gd τ G call X c k W) {x : Str} {pos : Pos} {ix : List Nat} (hix : ∀ i, nameAt c.nm x = some i → stoN c x = true → i ∈ ix) : PG X (.Name x pos) (tGn τ X.K ix fun _ d s => setN c s x d) := by
  by_cases hs : stoN c x = true
  · cases hn : nameAt c.nm x with
    | none =>
      refine .no fun v σ H Q ⟨α, F, h, s, d, s', _, _, e, _⟩ => ?_
      change setN c s x d = some s' at e
      unfold setN at e; rw [if_pos hs, hn] at e; cases e
    | some i =>
      refine (pg_name (by rw [g.nm]; exact g.nd) (g.at_ hn) (g.loc hs) (by rw [g.sc]; exact g.fn x hs)).imp fun v σ H Q p => ?_
      obtain ⟨α, F, h, s, d, s', a, r, e, q⟩ := p
      change setN c s x d = some s' at e
      unfold setN at e
      rw [if_pos hs, hn] at e
      cases e
      refine q _ (a.2.set r) ⟨by simp, fun j hj => ?_⟩
      rw [List.getElem?_set_ne (fun z => hj (by rw [← z]; exact hix i hn hs))]
  · refine .no fun v σ H Q ⟨α, F, h, s, d, s', _, _, e, _⟩ => ?_
    change setN c s x d = some s' at e
    unfold setN at e; rw [if_neg hs] at e; cases e
theorem assignEach_cons {e : Expr} {es : List Expr} {env : Env} (h : isStar e = false) : assignEach (e :: es) env = (false, assign e env) :: assignEach es env := by
  cases e <;> first | rfl | cases h
theorem assignEach_len : ∀ {es : List Expr} {env : Env}, (assignEach es env).length = es.length
  | [], _ => rfl
  | e :: es, env => by
    have ih := assignEach_len (es := es) (env := env)
    cases e <;> exact congrArg (· + 1) ih
theorem assignEach_no : ∀ {es : List Expr} {env : Env}, es.any isStar = false → (assignEach es env).findIdx? (·.1) = none
  | [], _, _ => rfl
  | e :: es, env, h => by
    rw [List.any_cons, Bool.or_eq_false_iff] at h
    rw [assignEach_cons h.1, List.findIdx?_cons]
    simp [assignEach_no h.2]
theorem setEach_ok (g : Gd τ G call X c k W) {ix : List Nat} {f : Hs → Expr → D → Sl → Option Sl} (ih : ∀ e, isStar e = false → PG X e (tGn τ X.K ix fun h d s => f h e d s)) (hst : ∀ h e d s, isStar e = true → f h e d s = none) :
    ∀ es : List Expr, PGs X es (tGsn τ X.K ix fun h ds s => setEach (f h) es ds s)
  | [] => pgs_nil.imp fun vs σ H Q p => by
    obtain ⟨α, F, h, s, d, s', a, r, e, q⟩ := p
    cases r with
    | nil => cases e; exact ⟨rfl, q σ a.2 Off.refl⟩
    | cons _ _ => cases e
  | e :: es => by
    by_cases he : isStar e = true
    · refine .no fun vs σ H Q p => ?_
      obtain ⟨α, F, h, s, d, s', a, r, e1, q⟩ := p
      cases r with
      | nil => cases e1
      | cons r1 r2 =>
        rename_i d1 v1 ds vs'
        have e1 : (f h e d1 s).bind (fun s1 => setEach (f h) es ds s1) = some s' := e1
        rw [hst h e d1 s he] at e1
        cases e1
    · have he' : isStar e = false := by simpa using he
      refine (pgs_cons (ih e he') (setEach_ok g ih hst es) (by rw [assignEach_cons he']; rfl)).imp fun vs σ H Q p => ?_
      obtain ⟨α, F, h, s, d, s', a, r, e1, q⟩ := p
      cases r with
      | nil => cases e1
      | cons r1 r2 =>
        rename_i d1 v1 ds vs'
        obtain ⟨s1, h1, h2⟩ := Option.bind_eq_some_iff.mp (show (f h e d1 s).bind (fun s1 => setEach (f h) es ds s1) = some s' from e1)
        refine ⟨v1, vs', rfl, α, F, h, s, d1, s1, a, r1, h1, fun σ1 r3 o1 => ?_⟩
        exact ⟨α, F, h, s1, ds, s', ⟨a.1, r3⟩, r2, h2, fun σ2 r4 o2 => q σ2 r4 (o1.trans o2)⟩
theorem setEach_len {f : Expr → D → Sl → Option Sl} : ∀ {es : List Expr} {ds : List D} {s s' : Sl}, setEach f es ds s = some s' → ds.length = es.length
  | [], [], _, _, _ => rfl
  | [], _ :: _, _, _, e => by cases e
  | _ :: _, [], _, _, e => by cases e
  | e :: es, d :: ds, s, s', q => by
    obtain ⟨s1, h1, h2⟩ := Option.bind_eq_some_iff.mp (show (f e d s).bind (fun s1 => setEach f es ds s1) = some s' from q)
    simp [setEach_len h2]
theorem setEach_star {f : Expr → D → Sl → Option Sl} (hf : ∀ e d s, isStar e = true → f e d s = none) : ∀ {es : List Expr} {ds : List D} {s s' : Sl}, setEach f es ds s = some s' → es.any isStar = false
  | [], _, _, _, _ => rfl
  | _ :: _, [], _, _, e => by cases e
  | e :: es, d :: ds, s, s', q => by
    obtain ⟨s1, h1, h2⟩ := Option.bind_eq_some_iff.mp (show (f e d s).bind (fun s1 => setEach f es ds s1) = some s' from q)
    rw [List.any_cons, setEach_star hf h2, Bool.or_false]
    cases hs : isStar e with
    | false => rfl
    | true => rw [hf e d s hs] at h1; cases h1
theorem setT_star {c : Ctx} {ok : Str → Bool} {h : Hs} {n : Nat} {e : Expr} {d : D} {s : Sl} (he : isStar e = true) : setT c ok h n e d s = none := by
  cases n with
  | zero => rfl
  | succ n => cases e <;> first | rfl | cases he
theorem setT_ok (g : Gd τ G call X c k W) {ix : List Nat} {ok : Str → Bool} (hix : ∀ x i, ok x = true → nameAt c.nm x = some i → stoN c x = true → i ∈ ix) : ∀ (n : Nat) (e : Expr), PG X e (tGn τ X.K ix fun h d s => setT c ok h n e d s)
  | 0, e => .no fun v σ H Q ⟨α, F, h, s, d, s', _, _, e, _⟩ => by cases e
  | n + 1, e => by
    cases e with
    | Name x pos =>
      by_cases hx : ok x = true
      · refine (setN_ok g (ix := ix) (pos := pos) fun i h1 h2 => hix x i hx h1 h2).imp fun v σ H Q p => ?_
        obtain ⟨α, F, h, s, d, s', a, r, e1, q⟩ := p
        refine ⟨α, F, h, s, d, s', a, r, ?_, q⟩
        have e1 : (if ok x then setN c s x d else none) = some s' := e1
        rw [if_pos hx] at e1
        exact e1
      · refine .no fun v σ H Q ⟨α, F, h, s, d, s', _, _, e1, _⟩ => ?_
        have e1 : (if ok x then setN c s x d else none) = some s' := e1
        rw [if_neg hx] at e1
        cases e1
    | Tuple es j pos =>
      have hs := setEach_ok g (ix := ix) (f := fun h e d s => setT c ok h n e d s) (fun e _ => setT_ok g hix n e) (fun h e d s he => setT_star he) es
      by_cases hst : es.any isStar = true
      · refine .no fun v σ H Q ⟨α, F, h, s, d, s', a, r, e1, q⟩ => ?_
        obtain ⟨ds, h1, h2⟩ := Option.bind_eq_some_iff.mp (show (d.seq h).bind (fun ds => setEach (setT c ok h n) es ds s) = some s' from e1)
        rw [setEach_star (fun e d s he => setT_star he) h2] at hst
        cases hst
      · have hst' : es.any isStar = false := by simpa using hst
        refine ((pg_tup g.calm hs assignEach_len (assignEach_no hst')).or (pg_lst g.calm hs assignEach_len (assignEach_no hst'))).imp fun v σ H Q p => ?_
        obtain ⟨α, F, h, s, d, s', a, r, e1, q⟩ := p
        obtain ⟨ds, h1, h2⟩ := Option.bind_eq_some_iff.mp (show (d.seq h).bind (fun ds => setEach (setT c ok h n) es ds s) = some s' from e1)
        obtain ⟨b, vs, rfl, f, rs⟩ := seq_of a.1 r h1
        have hl : vs.length = es.length := by
          rw [← rs.length]
          exact setEach_len h2
        rcases f with f | f
        · exact .inr ⟨b, vs, rfl, f, hl, α, F, h, s, ds, s', a, rs, h2, q⟩
        · exact .inl ⟨b, vs, rfl, f, hl, α, F, h, s, ds, s', a, rs, h2, q⟩
    | _ => exact .no fun v σ H Q ⟨α, F, h, s, d, s', _, _, e, _⟩ => by cases e
/-- any target -/
abbrev NoE : XK := fun _ _ _ => False
def tG (τ : List Addr) (K : PySem.W.Frag) (mg : Str → Option Value) (f : D → Sl → Hs → Res Sl) : TG := fun v σ H Q => ∃ α F h s d, At τ K α F H h s σ ∧ RD K α F d v ∧ RP τ K mg NoE (SR K) α F H (f d s h) Q
theorem RP.unX {K : PySem.W.Frag} {mg : Str → Option Value} {E E' : XK} {α : Al} {F H : Hp} {A B C C' : Type} {rel : Al → Hp → A → B → Prop} {rel' : Al → Hp → C → C' → Prop} {r : Res A} {f : A → Hs → Res C} {Q : C' → Hp → Prop} (p : RP τ K mg E rel' α F H ((noX r).bind f) Q) :
    RP τ K mg E' rel α F H r (fun b H1 => ∃ α1 F1 h1 d, Ext α F H α1 F1 H1 ∧ Wd τ K α1 F1 H1 h1 ∧ rel α1 F1 d b ∧ RP τ K mg E rel' α1 F1 H1 (f d h1) Q) := by
  cases r with
  | ok d h' => exact fun α1 F1 H1 b x w q => ⟨α1, F1, h', d, x, w, q, p.ext x⟩
  | exc e h' => exact p.elim
  | bad => exact p.elim
theorem gE0_ok (g : Gd τ G call X c k W) (ih : ∀ e, PE X e (tE τ X.K X.mg W (S.e c e))) (tg : Expr) : PG X tg (tG τ X.K X.mg (gE0 S c tg)) := by
  have plain : ∀ tg : Expr, (∀ d s h, gE0 S c tg d s h = match setT c (fun _ => true) h 4 tg d s with | some s' => .ok s' h | none => .bad) → PG X tg (tG τ X.K X.mg (gE0 S c tg)) := by
    intro tg e
    refine (setT_ok g (ix := List.range c.nm.length) (ok := fun _ => true) (fun x i _ h1 _ => List.mem_range.mpr (List.getElem?_eq_some_iff.mp (nameAt_get h1)).1) 4 tg).imp fun v σ H Q p => ?_
    obtain ⟨α, F, h, s, d, a, r, p⟩ := p
    rw [e] at p
    cases hs : setT c (fun _ => true) h 4 tg d s with
    | none => rw [hs] at p; exact p.elim
    | some s' =>
      rw [hs] at p
      exact ⟨α, F, h, s, d, s', a, r, hs, fun σ' r' _ => p.ok a.1 r'⟩
  cases tg with
  | Subscript o i pos =>
    by_cases hi : isSlice i = true
    · refine .no fun v σ H Q ⟨α, F, h, s, d, a, r, p⟩ => ?_
      cases i <;> first | (cases hi; done) | exact p.elim
    · have hi' : isSlice i = false := by simpa using hi
      have ha : ∀ v, assign (.Subscript o i pos) X.env v = (do
          let ov ← holding [v] (eval o X.env)
          let iv ← holding [v, ov] (eval i X.env)
          standAt pos
          holding [v, ov, iv] (setItem ov iv v)
          release [v, ov, iv] []) := by intro v; cases i <;> first | rfl | cases hi'
      refine (pg_sub (ih o) (ih i) (set_D (τ := τ) (mg := X.mg) rfl) ha).imp fun v σ H Q p => ?_
      obtain ⟨α, F, h, s, d, a, r, p⟩ := p
      have p : RP τ X.K X.mg NoE (SR X.K) α F H ((noX (S.e c o s h)).bind fun x h1 => (noX (S.e c i s h1)).bind fun y h2 => (setD x y d h2).bind fun _ h3 => .ok s h3) Q := by
        cases i <;> first | exact p | cases hi'
      refine RP.start a ((RP.unX (rel := RD X.K) p).mono fun x H1 ⟨α1, F1, h1, dx, x1, w1, r1, p1⟩ => ?_)
      have a1 := a.ext x1 w1
      refine RP.start a1 ((RP.unX (rel := RD X.K) p1).mono fun y H2 ⟨α2, F2, h2, dy, x2, w2, r2, p2⟩ => ?_)
      have a2 := a1.ext x2 w2
      refine ⟨NoE, α2, F2, h2, dx, dy, d, w2, x2.rd r1, r2, (x1.trans x2).rd r, ?_⟩
      exact (RP.bind (rel := RD X.K) p2).mono fun b H3 ⟨α3, F3, h3, d3, x3, w3, r3, p3⟩ => p3.ok w3 (a2.2.mono x3)
  | _ => exact plain _ fun d s h => rfl
theorem gE_ok (g : Gd τ G call X c k W) (ih : ∀ e, PE X e (tE τ X.K X.mg W (S.e c e))) (tg : Expr) : PG X tg (tG τ X.K X.mg (gE S c tg)) := by
  by_cases ht : ∃ o1 i1 p1 o2 i2 p2 j pos, tg = .Tuple [.Subscript o1 i1 p1, .Subscript o2 i2 p2] j pos
  · obtain ⟨o1, i1, p1, o2, i2, p2, j, pos, rfl⟩ := ht
    refine (pg_tup g.calm (pgs_cons (gE0_ok g ih (.Subscript o1 i1 p1)) (pgs_cons (gE0_ok g ih (.Subscript o2 i2 p2)) pgs_nil rfl) rfl) rfl rfl).imp fun v σ H Q p => ?_
    obtain ⟨α, F, h, s, d, a, r, p⟩ := p
    have p : RP τ X.K X.mg NoE (SR X.K) α F H (gE2 (gE0 S c (.Subscript o1 i1 p1)) (gE0 S c (.Subscript o2 i2 p2)) d s h) Q := p
    by_cases hd : ∃ d1 d2, d = .tup [d1, d2]
    · obtain ⟨d1, d2, rfl⟩ := hd
      have p : RP τ X.K X.mg NoE (SR X.K) α F H ((noX (gE0 S c (.Subscript o1 i1 p1) d1 s h)).bind fun s1 h1 => gE0 S c (.Subscript o2 i2 p2) d2 s1 h1) Q := p
      cases r with
      | tup f q =>
        cases q with
        | cons r1 q => cases q with
          | cons r2 q =>
            cases q
            refine ⟨_, _, rfl, Same.seqT a.1.sub f, rfl, _, _, rfl, α, F, h, s, d1, a, r1, ?_⟩
            refine (RP.unX (rel := SR X.K) p).mono fun σ1 H1 ⟨α1, F1, h1, s1, x1, w1, sr1, q1⟩ => ?_
            exact ⟨_, _, rfl, α1, F1, h1, s1, d2, ⟨w1, sr1⟩, x1.rd r2, q1.mono fun σ2 H2 q => ⟨rfl, q⟩⟩
    · unfold gE2 at p
      split at p
      · exact absurd ⟨_, _, rfl⟩ hd
      · exact p.elim
  · refine (gE0_ok g ih tg).imp fun v σ H Q p => ?_
    obtain ⟨α, F, h, s, d, a, r, p⟩ := p
    refine ⟨α, F, h, s, d, a, r, ?_⟩
    have e : gE S c tg d s h = gE0 S c tg d s h := by
      unfold gE
      split
      · rename_i o1 i1 p1 o2 i2 p2 j pos
        exact absurd ⟨o1, i1, p1, o2, i2, p2, j, pos, rfl⟩ ht
      · rfl
    rw [e] at p
    exact p
end
end Bk

/-! BkIter: what is walked. -/
namespace PySem
open Sem (wp)
set_option maxHeartbeats 1000000 in
theorem meets_enumerate_newB1 {v : Value} {o : Obj} {H : Heap → Prop} (B : Begins v o H) :
    Meets (Builtin.«enumerate.__new__» ⟨[.type "enumerate", v], []⟩) (fun _ R s => H s.heap ∧
      R (.ok (.ret (.ref (s.heap.push o).objs.size))) { s with heap := (s.heap.push o).push { cls := .type "enumerate", data := .fields #[.none, .bool false, .ref s.heap.objs.size, rawInt 0, .none, .none] } }) :=
  .of_wp fun prog w A R s h => by
    obtain ⟨hp, g, d, tk, os⟩ := s; obtain ⟨h1, h⟩ := h
    have hsub := sub_enumerate
    have q1 : ∀ {A' : Around} {E : Value → Shared → Prop} {Q : Value → Shared → Prop}, Q (.ref hp.objs.size) ⟨hp.push o, g, d, tk, os⟩ → wpAny (model prog w) A' (pyIter v) Q E ⟨hp, g, d, tk, os⟩ :=
      fun q => B.iter prog w _ _ ⟨hp, g, d, tk, os⟩ _ h1 q
    wp_walk using q1
    refine wpAny_stack_any fun st => wpAny_pure ?_
    split
    · rename_i c _ _ _ _ _
      cases (c == Value.type "enumerate")
      · wp_walk using q1
        exact ⟨_, rfl, h⟩
      · wp_walk using q1
        exact ⟨_, rfl, h⟩
    · wp_walk using q1
      exact ⟨_, rfl, h⟩
theorem call_enumerate_tuple {prog : Program} {w : World} {A : Around} {E : Value → Shared → Prop} {s : Shared} {l : Addr} {items : Array Value} {Q : Value → Shared → Prop} (hL : s.heap.IsTuple l items)
    (h : ∀ h', IsEnum h' (s.heap.objs.size + 1) s.heap.objs.size 0 .none → h'.IsTupleIter s.heap.objs.size l 0 → h'.objs.size = s.heap.objs.size + 2 →
      (∀ b o, s.heap.get? b = some o → h'.get? b = some o) → Q (.ref (s.heap.objs.size + 1)) { s with heap := h' }) :
    wpAny (model prog w) A (call (.type "enumerate") [.ref l]) Q E s := by
  refine callType_new F.called_enumerate (by decide) (F.typeCall_enumerate_1 _) (F.newCall_enumerate_1 _) (fun obj => F.args_object_init_2 obj _) F.entry_enumerate_new
    (meets_enumerate_newB1 (begins_tuple l items)) ⟨hL, ?_⟩
  have hz : (s.heap.push { cls := .type "tuple_iterator", data := .fields #[.ref l, .int 0 0] }).objs.size = s.heap.objs.size + 1 := Heap.size_push ..
  show _ ∧ _
  rw [hz]
  have he : IsEnum ((s.heap.push { cls := .type "tuple_iterator", data := .fields #[.ref l, .int 0 0] }).push
      { cls := .type "enumerate", data := .fields #[.none, .bool false, .ref s.heap.objs.size, rawInt 0, .none, .none] }) (s.heap.objs.size + 1) s.heap.objs.size 0 .none := by
    have := Heap.get?_push_size (s.heap.push { cls := .type "tuple_iterator", data := .fields #[.ref l, .int 0 0] })
      (o := { cls := .type "enumerate", data := .fields #[.none, .bool false, .ref s.heap.objs.size, rawInt 0, .none, .none] }) rfl
    rw [hz] at this; exact this
  refine ⟨⟨_, he, rfl⟩, h _ he ⟨_, Heap.get?_push_of_some _ (Heap.get?_push_size _ rfl), rfl, rfl⟩ (by rw [Heap.size_push, hz]) fun b o x => Heap.get?_push_of_some _ (Heap.get?_push_of_some _ x)⟩
end PySem
namespace Bk
open PySem PySem.Spec PyProof.Rows L2
/-- the tuple at a, each item in a new pair -/
def IteT (K : PySem.W.Frag) (a : Addr) : It :=
  ⟨fun i H => ∃ (xs : List V) (x : V), SqT K H a xs ∧ xs[i]? = some x, fun i H v H' => ∃ T x, v = .ref T ∧ H T = none ∧ H' = upd H T (.tup [.int (i : Nat), x]) ∧ ∀ xs, SqT K H a xs → xs[i]? = some x, fun i H => ∃ xs : List V, SqT K H a xs ∧ xs.length ≤ i⟩
theorem turn_enumT {P : Program} {w : World} {K : PySem.W.Frag} {elts : List Expr} {kk : Nat} {tpos : Pos} (a e it : Addr) :
    Turn P w K (.Tuple elts kk tpos) (IteT K a) [e, it] e (fun i h => (∃ old, IsEnum h e it ((i : Nat) : Int) old) ∧ h.IsTupleIter it a i ∧ e ≠ it ∧ a ≠ it ∧ a ≠ e) where
  mem := by simp
  obj := fun i h st b hb => by
    obtain ⟨⟨old, he⟩, ⟨o, ho, hc, hd⟩, _⟩ := st
    have e' : b = e ∨ b = it := by simpa using hb
    rcases e' with z | z
    · rw [z]; exact ⟨_, he, fun v q => nomatch q⟩
    · rw [z]; exact ⟨o, ho, fun v q => by rw [hd] at q; cases q⟩
  keep := fun i h h' st k => let ⟨⟨old, he⟩, hi, hne⟩ := st; ⟨⟨old, k e (by simp) _ he⟩, hi.at fun o q => k it (by simp) o q, hne⟩
  item := by
    intro X hP hw hK hc i pins s σ H E I hf st hg
    subst hP hw hK
    obtain ⟨⟨old, he⟩, hit, hne, hai, hae⟩ := st
    obtain ⟨xs, x, hq, hx⟩ := hg
    obtain ⟨its, rv, p, hz⟩ := I.tuple hq
    obtain ⟨u, hu, ru⟩ := rv.get hx
    have hel : e < s.heap.objs.size := Heap.lt_size he
    have hil : it < s.heap.objs.size := by obtain ⟨_, q, _⟩ := hit; exact Heap.lt_size q
    have hlt : i < its.toArray.size := by
      have := (List.getElem?_eq_some_iff.mp hu).1
      simpa using this
    refine wpAny_pyNext_enum_itemD (Draws.tuple (show X.A.in1.handled = none from I.ok.hd hc) it a hai its.toArray) he ⟨hit, show s.heap.IsTuple a its.toArray from p⟩ hlt hne (by simp [hne, Ne.symm hae]) fun x0 h' tk hx0 ho hit' hT hsz hk => ?_
    have hx0' : x0 = u := by
      have : its[i]? = some x0 := by simpa using hx0
      rw [hu] at this
      exact (Option.some.inj this).symm
    subst hx0'
    refine ⟨_, rfl, wpAny_letOwnedTupleGo_enum (s := { s with heap := h', toks := tk + 1 }) ho fun h'' he' sb => ?_⟩
    have hT2 : h''.get? s.heap.objs.size = some { cls := .type "tuple", data := .seq #[.int i tk, x0] } := (sb.2 _ (Nat.ne_of_gt hel)).trans hT
    have new : ObjOk X.prog X.w (upd H s.heap.objs.size (.tup [.int (i : Nat), x])) h'' s.heap.objs.size (.tup [.int (i : Nat), x]) :=
      ⟨by show 2 ≤ sizeLine; decide, [.int i tk, x0], .cons ⟨_, rfl⟩ (.cons ru .nil), ⟨_, hT2, rfl, _, rfl⟩⟩
    have I1 : Inv X pins σ (upd H s.heap.objs.size (.tup [.int (i : Nat), x])) { s with heap := h'', toks := tk + 1 } :=
      I.turnedNew (ch := [e, it]) (fun b ob hb q => (sb.2 b (fun z => hb (by simp [z]))).trans (hk b ob (fun z => hb (by simp [z])) (fun z => hb (by simp [z])) q)) hf (Nat.le_refl _) new
    refine ⟨.ref s.heap.objs.size, _, I1, rfl, ⟨_, x, rfl, I.hok.fresh (Nat.le_refl _), rfl, fun ys hy => by rw [I.tuple_inj hy hq]; exact hx⟩, ⟨⟨x0, ?_⟩, hit'.1.at fun o q => (sb.2 it (Ne.symm hne)).trans q, hne, hai, hae⟩, fun b hb => ?_⟩
    · have e1 : ((i + 1 : Nat) : Int) = (i : Int) + 1 := by omega
      rw [e1]; exact he'
    · have hb' : b < s.heap.objs.size := by
        have e' : b = e ∨ b = it := by simpa using hb
        rcases e' with z | z
        · rw [z]; exact hel
        · rw [z]; exact hil
      rw [upd_ne (Nat.ne_of_lt hb')]
      exact (hf b hb).1
  done := by
    intro X hP hw hK hc i pins s σ H E I hf st hg
    subst hP hw hK
    obtain ⟨⟨old, he⟩, hit, hne, hai, hae⟩ := st
    obtain ⟨xs, hq, hx⟩ := hg
    obtain ⟨its, rv, p, hz⟩ := I.tuple hq
    obtain ⟨f0, f1, f2, f3, f4, f5⟩ := hf it (by simp)
    have hl := rv.length
    have hT : s.TypeIs (.ref e) "enumerate" := ⟨_, he, rfl⟩
    unfold pyNext
    refine wpAny_bind (wpAny_attempt (wpAny_callSpecial?_slot (name := Str.ofString "__next__") hT F.slot_enumerate_next
      (wpAny_call_entry F.slot_enumerate_next hT F.entry_enumerate_next ?_ (F.args_enumerate_next_1 _))))
    show wpAny _ _ (field (.ref e) 2 >>= _) _ _ _
    refine wpAny_bind (wpAny_field he rfl (x := .ref it) rfl ?_)
    refine wpAny_bind (wpAny_nextOf_tuple_end (show X.A.in1.handled = none from I.ok.hd hc) hit (show s.heap.IsTuple a its.toArray from p) (by simp; omega) fun h' x he' hx' => ?_)
    obtain ⟨o, ho, hc⟩ := hx'
    refine wpAny_bind (wpAny_isInstance (T := "StopIteration") (b := true) ⟨o, ho, hc⟩ isSubtype_stop ?_)
    exact wpAny_pure ⟨rfl, I.turned (t' := s.toks) (fun b o hb q => he' b o hb q) f0 f1 f3 f4 f5⟩
  self := fun A i s Q E st h => let ⟨⟨_, he⟩, _⟩ := st; wpAny_pyIter_enum he h
def iEnumA (K : PySem.W.Frag) (ta : TA) : TI := fun σ H R => ta σ H fun vs H1 => ∃ a, vs = [.ref a] ∧ (((∃ xs, SqL K H1 a xs) ∧ R (Ite K a) H1) ∨ ((∃ xs, SqT K H1 a xs) ∧ R (IteT K a) H1))
theorem pi_enumA {X : Cx} {e : Expr} {ta : TA} {p pos tpos : Pos} {elts : List Expr} {kk : Nat} (hg : Gl X "enumerate") (hm : X.mg "enumerate" = none) (ha : PA X [e] ta) (hs : starEach [e] X.env = [(false, eval e X.env)]) :
    PI X (.Tuple elts kk tpos) (.Call (.Name "enumerate" p) [e] [] pos) (iEnumA X.K ta) := by
  refine ⟨fun pins s σ H R I h => ?_⟩
  refine Call_ (ld_blt I hg hm boot_enumerate (PyProof.Rows.callWith_type1 (thn (ha.run pos pins s σ H _ I h) fun us s1 ⟨vs, H1, I1, r1, q1⟩ => ?_) hs rfl))
  obtain ⟨a, ex, q1⟩ := q1
  subst ex
  cases r1 with
  | cons r rr =>
    cases rr
    cases r
    rcases q1 with ⟨⟨xs, hq⟩, q⟩ | ⟨⟨xs, hq⟩, q⟩
    · obtain ⟨its, rv, p', hz⟩ := I1.list hq
      refine call_enumerate_list p'.isList fun h' he hit hsz hk => wpAny_pyIter_enum he ?_
      have I2 : Inv X pins σ H1 { s1 with heap := h' } := I1.kept (t' := s1.toks) hk
      refine ⟨s1.heap.objs.size + 1, [s1.heap.objs.size + 1, s1.heap.objs.size], _, _, H1, rfl, I2, turn_enum a (s1.heap.objs.size + 1) s1.heap.objs.size, ⟨⟨.none, he⟩, hit, Nat.succ_ne_self _⟩, fun b hb => ?_, q⟩
      have hb' : s1.heap.objs.size ≤ b := by
        have e' : b = s1.heap.objs.size + 1 ∨ b = s1.heap.objs.size := by simpa using hb
        rcases e' with z | z
        · rw [z]; exact Nat.le_succ _
        · rw [z]; exact Nat.le_refl _
      exact I1.fpOk hb' (I1.hok.fresh hb')
    · obtain ⟨its, rv, p', hz⟩ := I1.tuple hq
      have hlt : a < s1.heap.objs.size := by obtain ⟨o, ho, _⟩ := p'; exact Heap.lt_size ho
      refine call_enumerate_tuple (show s1.heap.IsTuple a its.toArray from p') fun h' he hit hsz hk => wpAny_pyIter_enum he ?_
      have I2 : Inv X pins σ H1 { s1 with heap := h' } := I1.kept (t' := s1.toks) hk
      refine ⟨s1.heap.objs.size + 1, [s1.heap.objs.size + 1, s1.heap.objs.size], _, _, H1, rfl, I2, turn_enumT a (s1.heap.objs.size + 1) s1.heap.objs.size, ⟨⟨.none, he⟩, hit, Nat.succ_ne_self _, Nat.ne_of_lt hlt, Nat.ne_of_lt (Nat.lt_succ_of_lt hlt)⟩, fun b hb => ?_, q⟩
      have hb' : s1.heap.objs.size ≤ b := by
        have e' : b = s1.heap.objs.size + 1 ∨ b = s1.heap.objs.size := by simpa using hb
        rcases e' with z | z
        · rw [z]; exact Nat.le_succ _
        · rw [z]; exact Nat.le_refl _
      exact I1.fpOk hb' (I1.hok.fresh hb')
def iSeqA (K : PySem.W.Frag) (tl : TE) : TI := fun σ H R => tl σ H fun x H1 => ∃ a, x = .ref a ∧ (((∃ xs, SqL K H1 a xs) ∧ R (Itl K a) H1) ∨ ((∃ xs, SqT K H1 a xs) ∧ R (Itt K a) H1))
theorem pi_seqA {X : Cx} {tg l : Expr} {tl : TE} (hl : PE X l tl) : PI X tg l (iSeqA X.K tl) := by
  refine ⟨fun pins s σ H R I h => ?_⟩
  refine thn (hl.run pins s σ H _ I h) fun v s1 ⟨x, H1, I1, r1, q1⟩ => ?_
  obtain ⟨a, e, q1⟩ := q1
  subst e
  cases r1
  rcases q1 with ⟨⟨xs, hq⟩, q⟩ | ⟨⟨xs, hq⟩, q⟩
  · obtain ⟨its, rv, p, hz⟩ := I1.list hq
    refine wpAny_pyIter_list p.isList ?_
    refine ⟨s1.heap.objs.size, [s1.heap.objs.size], _, _, H1, rfl, I1.kept (t' := s1.toks) fun b o e => Heap.get?_push_of_some _ e, turn_list a _, ⟨_, Heap.get?_push_size _ rfl, rfl, rfl⟩, fun b hb => ?_, q⟩
    have e : b = s1.heap.objs.size := by simpa using hb
    subst e
    exact I1.fpOk (Nat.le_refl _) (I1.hok.fresh (Nat.le_refl _))
  · obtain ⟨its, rv, p, hz⟩ := I1.tuple hq
    refine wpAny_pyIter_tuple (show s1.heap.IsTuple a its.toArray from p) ?_
    refine ⟨s1.heap.objs.size, [s1.heap.objs.size], _, _, H1, rfl, I1.kept (t' := s1.toks) fun b o e => Heap.get?_push_of_some _ e, turn_tuple a _, ⟨_, Heap.get?_push_size _ rfl, rfl, rfl⟩, fun b hb => ?_, q⟩
    have e : b = s1.heap.objs.size := by simpa using hb
    subst e
    exact I1.fpOk (Nat.le_refl _) (I1.hok.fresh (Nat.le_refl _))

/-! ### an iterator and what the evaluator walks -/
def ItR (τ : List Addr) (K : PySem.W.Frag) (α : Al) (F H : Hp) (J : It) (w : Wk) : Prop := ∀ i α' F' H' h', Ext α F H α' F' H' → Wd τ K α' F' H' h' →
  (∀ d, w.nxt i h' = some (some d) → J.go i H' ∧ ∀ x H'', J.yld i H' x H'' → ∃ F'', Ext α' F' H' α' F'' H'' ∧ Wd τ K α' F'' H'' h' ∧ RD K α' F'' d x) ∧
  (w.nxt i h' = some none → J.stop i H')
section
variable {K : PySem.W.Frag} {mg : Str → Option Value} {α α' : Al} {F F' H H' : Hp} {h h' : Hs} {s : Sl} {σ : St} {E : XK} {W : WX}
theorem ItR.ext {J : It} {w : Wk} (x : Ext α F H α' F' H') (r : ItR τ K α F H J w) : ItR τ K α' F' H' J w := fun i _ _ _ _ y wd => r i _ _ _ _ (x.trans y) wd
def IP (τ : List Addr) (K : PySem.W.Frag) (mg : Str → Option Value) (E : XK) (α : Al) (F H : Hp) (r : Res Wk) (R : It → Hp → Prop) : Prop := match r with
  | .ok w h' => ∀ α' F' H' J, Ext α F H α' F' H' → Wd τ K α' F' H' h' → ItR τ K α' F' H' J w → R J H'
  | .exc e h' => ∀ (α' : Al) (F' H' : Hp) (cls : Value) (dd : Option Addr), Ext α F H α' F' H' → Wd τ K α' F' H' h' → RX mg F' e cls dd → E cls dd H'
  | .bad => False
theorem IP.ext {r : Res Wk} {R : It → Hp → Prop} (x : Ext α F H α' F' H') (p : IP τ K mg E α F H r R) : IP τ K mg E α' F' H' r R := by
  cases r with
  | ok w h' => exact fun _ _ _ J y wd q => p _ _ _ J (x.trans y) wd q
  | exc e h' => exact fun _ _ _ c d y wd q => p _ _ _ c d (x.trans y) wd q
  | bad => exact p
theorem IP.bind {A B : Type} {rel : Al → Hp → A → B → Prop} {r : Res A} {f : A → Hs → Res Wk} {R : It → Hp → Prop} (p : IP τ K mg E α F H (r.bind f) R) :
    RP τ K mg E rel α F H r (fun b H1 => ∃ α1 F1 h1 d, Ext α F H α1 F1 H1 ∧ Wd τ K α1 F1 H1 h1 ∧ rel α1 F1 d b ∧ IP τ K mg E α1 F1 H1 (f d h1) R) := by
  cases r with
  | ok d h' => exact fun α1 F1 H1 b x w q => ⟨α1, F1, h', d, x, w, q, p.ext x⟩
  | exc e h' => exact p
  | bad => exact p
theorem IP.ok {w : Wk} {J : It} {R : It → Hp → Prop} (wd : Wd τ K α F H h) (q : ItR τ K α F H J w) (p : IP τ K mg E α F H (.ok w h) R) : R J H := p α F H J Ext.refl wd q
theorem itr_list {a : Addr} {xs : List D} {vs : List V} (f : SqL K F a vs) (q : RDs K α F xs vs) : ItR τ K α F H (Itl K a) (Wk.of xs) := by
  intro i α' F' H' h' x w
  have hs : SqL K H' a vs := w.sub.seq (x.sub.seq f)
  refine ⟨fun d e => ?_, fun e => ?_⟩
  · have e : xs[i]? = some d := Option.some.inj e
    obtain ⟨v, e1, r⟩ := (x.rds q).get e
    refine ⟨⟨vs, v, hs, e1⟩, fun y H'' hy => ?_⟩
    obtain ⟨rfl, hy⟩ := hy
    have := hy vs hs
    rw [e1] at this
    cases this
    exact ⟨F', Ext.refl, w, r⟩
  · have e : xs[i]? = none := Option.some.inj e
    exact ⟨vs, hs, by rw [← q.length]; exact List.getElem?_eq_none_iff.mp e⟩
theorem itr_tup {a : Addr} {xs : List D} {vs : List V} (f : SqT K F a vs) (q : RDs K α F xs vs) : ItR τ K α F H (Itt K a) (Wk.of xs) := by
  intro i α' F' H' h' x w
  have hs : SqT K H' a vs := Same.seqT w.sub (Same.seqT x.sub f)
  refine ⟨fun d e => ?_, fun e => ?_⟩
  · have e : xs[i]? = some d := Option.some.inj e
    obtain ⟨v, e1, r⟩ := (x.rds q).get e
    refine ⟨⟨vs, v, hs, e1⟩, fun y H'' hy => ?_⟩
    obtain ⟨rfl, hy⟩ := hy
    have := hy vs hs
    rw [e1] at this
    cases this
    exact ⟨F', Ext.refl, w, r⟩
  · have e : xs[i]? = none := Option.some.inj e
    exact ⟨vs, hs, by rw [← q.length]; exact List.getElem?_eq_none_iff.mp e⟩
theorem itr_loc {a : Addr} {n l k : Nat} (g : gt α l k = some a) : ItR τ K α F H (Itl K a) (Wk.at n l k fun _ d => d) := by
  intro i α' F' H' h' x w
  have g' := x.look _ _ _ g
  refine ⟨fun d e => ?_, fun e => ?_⟩
  · obtain ⟨xs, e1, e2⟩ := Option.map_eq_some_iff.mp (show (cur h' l k).map (fun xs => xs[i]?.map fun d => d) = some (some d) from e)
    obtain ⟨vs, e3, q⟩ := cur_live w g' e1
    obtain ⟨d', e4, rfl⟩ := Option.map_eq_some_iff.mp e2
    obtain ⟨v, e5, r⟩ := q.get e4
    have hs : SqL K H' a vs := .of e3
    refine ⟨⟨vs, v, hs, e5⟩, fun y H'' hy => ?_⟩
    obtain ⟨rfl, hy⟩ := hy
    have := hy vs hs
    rw [e5] at this
    cases this
    exact ⟨F', Ext.refl, w, r⟩
  · obtain ⟨xs, e1, e2⟩ := Option.map_eq_some_iff.mp (show (cur h' l k).map (fun xs => xs[i]?.map fun d => d) = some none from e)
    obtain ⟨vs, e3, q⟩ := cur_live w g' e1
    exact ⟨vs, .of e3, by rw [← q.length]; exact List.getElem?_eq_none_iff.mp (by simpa using e2)⟩
theorem pair_new {F H : Hp} {i : Nat} {T : Addr} {d : D} {v : V} (w : Wd τ K α F H h) (hT : H T = none) (r : RD K α F d v) :
    ∃ F'', Ext α F H α F'' (upd H T (.tup [.int (i : Nat), v])) ∧ Wd τ K α F'' (upd H T (.tup [.int (i : Nat), v])) h ∧ RD K α F'' (.tup [.int (i : Nat), d]) (.ref T) := by
  obtain ⟨w', x', e'⟩ := w.newF hT (.tup [.int (i : Nat), v])
  exact ⟨_, x', w', .tup (SqT.of e') (.cons (.int _) (.cons (x'.rd r) .nil))⟩
theorem zipIdx_get {xs : List D} {i : Nat} : (xs.zipIdx.map fun p => D.tup [.int (p.2 : Nat), p.1])[i]? = xs[i]?.map fun d => D.tup [.int (i : Nat), d] := by
  rw [List.getElem?_map, List.getElem?_zipIdx]
  cases xs[i]? <;> simp
theorem itr_enumL {a : Addr} {xs : List D} {vs : List V} (f : SqL K F a vs) (q : RDs K α F xs vs) : ItR τ K α F H (Ite K a) (Wk.of (xs.zipIdx.map fun p => .tup [.int (p.2 : Nat), p.1])) := by
  intro i α' F' H' h' x w
  have hs : SqL K H' a vs := w.sub.seq (x.sub.seq f)
  refine ⟨fun d e => ?_, fun e => ?_⟩
  · have e : (xs.zipIdx.map fun p => D.tup [.int (p.2 : Nat), p.1])[i]? = some d := Option.some.inj e
    rw [zipIdx_get] at e
    obtain ⟨d', e4, rfl⟩ := Option.map_eq_some_iff.mp e
    obtain ⟨v, e1, r⟩ := (x.rds q).get e4
    refine ⟨⟨vs, v, hs, e1⟩, fun y H'' hy => ?_⟩
    obtain ⟨T, z, rfl, hT, rfl, hy⟩ := hy
    have := hy vs hs
    rw [e1] at this
    cases this
    exact pair_new w hT r
  · have e : (xs.zipIdx.map fun p => D.tup [.int (p.2 : Nat), p.1])[i]? = none := Option.some.inj e
    rw [zipIdx_get] at e
    exact ⟨vs, hs, by rw [← q.length]; exact List.getElem?_eq_none_iff.mp (by simpa using e)⟩
theorem itr_enumT {a : Addr} {xs : List D} {vs : List V} (f : SqT K F a vs) (q : RDs K α F xs vs) : ItR τ K α F H (IteT K a) (Wk.of (xs.zipIdx.map fun p => .tup [.int (p.2 : Nat), p.1])) := by
  intro i α' F' H' h' x w
  have hs : SqT K H' a vs := Same.seqT w.sub (Same.seqT x.sub f)
  refine ⟨fun d e => ?_, fun e => ?_⟩
  · have e : (xs.zipIdx.map fun p => D.tup [.int (p.2 : Nat), p.1])[i]? = some d := Option.some.inj e
    rw [zipIdx_get] at e
    obtain ⟨d', e4, rfl⟩ := Option.map_eq_some_iff.mp e
    obtain ⟨v, e1, r⟩ := (x.rds q).get e4
    refine ⟨⟨vs, v, hs, e1⟩, fun y H'' hy => ?_⟩
    obtain ⟨T, z, rfl, hT, rfl, hy⟩ := hy
    have := hy vs hs
    rw [e1] at this
    cases this
    exact pair_new w hT r
  · have e : (xs.zipIdx.map fun p => D.tup [.int (p.2 : Nat), p.1])[i]? = none := Option.some.inj e
    rw [zipIdx_get] at e
    exact ⟨vs, hs, by rw [← q.length]; exact List.getElem?_eq_none_iff.mp (by simpa using e)⟩
theorem itr_enumLoc {a : Addr} {n l k : Nat} (g : gt α l k = some a) : ItR τ K α F H (Ite K a) (Wk.at n l k fun i d => .tup [.int (i : Nat), d]) := by
  intro i α' F' H' h' x w
  have g' := x.look _ _ _ g
  refine ⟨fun d e => ?_, fun e => ?_⟩
  · obtain ⟨xs, e1, e2⟩ := Option.map_eq_some_iff.mp (show (cur h' l k).map (fun xs => xs[i]?.map fun d => D.tup [.int (i : Nat), d]) = some (some d) from e)
    obtain ⟨vs, e3, q⟩ := cur_live w g' e1
    obtain ⟨d', e4, rfl⟩ := Option.map_eq_some_iff.mp e2
    obtain ⟨v, e5, r⟩ := q.get e4
    have hs : SqL K H' a vs := .of e3
    refine ⟨⟨vs, v, hs, e5⟩, fun y H'' hy => ?_⟩
    obtain ⟨T, z, rfl, hT, rfl, hy⟩ := hy
    have := hy vs hs
    rw [e5] at this
    cases this
    exact pair_new w hT r
  · obtain ⟨xs, e1, e2⟩ := Option.map_eq_some_iff.mp (show (cur h' l k).map (fun xs => xs[i]?.map fun d => D.tup [.int (i : Nat), d]) = some none from e)
    obtain ⟨vs, e3, q⟩ := cur_live w g' e1
    exact ⟨vs, .of e3, by rw [← q.length]; exact List.getElem?_eq_none_iff.mp (by simpa using e2)⟩
/-- what a list's name reads, later too -/
theorem items_live {v : D} {a : Addr} {xs : List D} (w : Wd τ K α F H h) (r : RD K α F v (.ref a)) (e : v.items h = some xs) : ∃ vs, SqL K H a vs ∧ RDs K α F xs vs := by
  cases r with
  | lst f q => cases e; exact ⟨_, .of (w.sub _ _ f), q⟩
  | scr f => cases e; exact ⟨_, w.sub.seq f, RDs.ints _⟩
  | loc g =>
    obtain ⟨vs, e3, q⟩ := cur_live w g e
    exact ⟨vs, .of e3, q⟩
  | tup => cases e
theorem pair_new2 {F H : Hp} {T : Addr} {d e : D} {v u : V} (w : Wd τ K α F H h) (hT : H T = none) (r : RD K α F d v) (r' : RD K α F e u) :
    ∃ F'', Ext α F H α F'' (upd H T (.tup [v, u])) ∧ Wd τ K α F'' (upd H T (.tup [v, u])) h ∧ RD K α F'' (.tup [d, e]) (.ref T) := by
  obtain ⟨w', x', e'⟩ := w.newF hT (.tup [v, u])
  exact ⟨_, x', w', .tup (SqT.of e') (.cons (x'.rd r) (.cons (x'.rd r') .nil))⟩
theorem zipL_get {xs ys : List D} {i : Nat} {d : D} (e : (zipL xs ys)[i]? = some d) : ∃ x y, xs[i]? = some x ∧ ys[i]? = some y ∧ d = .tup [x, y] := by
  unfold zipL at e
  rw [List.getElem?_map, Option.map_eq_some_iff] at e
  obtain ⟨p, e, rfl⟩ := e
  rw [List.getElem?_zip_eq_some] at e
  exact ⟨p.1, p.2, e.1, e.2, rfl⟩
theorem zipL_none {xs ys : List D} {i : Nat} (e : (zipL xs ys)[i]? = none) : xs.length ≤ i ∨ ys.length ≤ i := by
  have := List.getElem?_eq_none_iff.mp e
  unfold zipL at this
  rw [List.length_map, List.length_zip] at this
  omega
theorem itr_zipT {a b : Addr} {xs ys : List D} {vs us : List V} (f : SqT K F a vs) (q : RDs K α F xs vs) (f' : SqT K F b us) (q' : RDs K α F ys us) : ItR τ K α F H (RZ.ItzT K a b) (Wk.of (zipL xs ys)) := by
  intro i α' F' H' h' x w
  have hs : SqT K H' a vs := Same.seqT w.sub (Same.seqT x.sub f)
  have hs' : SqT K H' b us := Same.seqT w.sub (Same.seqT x.sub f')
  refine ⟨fun d e => ?_, fun e => ?_⟩
  · obtain ⟨d1, d2, e1, e2, rfl⟩ := zipL_get (Option.some.inj e)
    obtain ⟨v1, g1, r1⟩ := (x.rds q).get e1
    obtain ⟨v2, g2, r2⟩ := (x.rds q').get e2
    refine ⟨⟨vs, us, v1, v2, hs, hs', g1, g2⟩, fun y H'' hy => ?_⟩
    obtain ⟨T, z1, z2, rfl, hT, rfl, hy1, hy2⟩ := hy
    have := hy1 vs hs
    rw [g1] at this
    cases this
    have := hy2 us hs'
    rw [g2] at this
    cases this
    exact pair_new2 w hT r1 r2
  · refine ⟨vs, us, hs, hs', ?_⟩
    rw [← q.length, ← q'.length]
    exact zipL_none (Option.some.inj e)
theorem itr_zipL {a b : Addr} {v u : D} {n : Nat} (r : RD K α F v (.ref a)) (r' : RD K α F u (.ref b)) : ItR τ K α F H (Itz K a b) ⟨n, fun i h => match v.items h, u.items h with
      | some xs, some ys => some (zipL xs ys)[i]?
      | _, _ => none⟩ := by
  intro i α' F' H' h' x w
  have key : ∀ o, (match v.items h', u.items h' with
      | some xs, some ys => some (zipL xs ys)[i]?
      | _, _ => none) = some o → ∃ xs ys, v.items h' = some xs ∧ u.items h' = some ys ∧ (zipL xs ys)[i]? = o := by
    intro o e
    cases h1 : v.items h' with
    | none => rw [h1] at e; cases e
    | some xs =>
      cases h2 : u.items h' with
      | none => rw [h1, h2] at e; cases e
      | some ys => rw [h1, h2] at e; exact ⟨xs, ys, rfl, rfl, Option.some.inj e⟩
  refine ⟨fun d e => ?_, fun e => ?_⟩
  · obtain ⟨xs, ys, h1, h2, e⟩ := key _ e
    obtain ⟨vs, hs, q⟩ := items_live w (x.rd r) h1
    obtain ⟨us, hs', q'⟩ := items_live w (x.rd r') h2
    obtain ⟨d1, d2, e1, e2, rfl⟩ := zipL_get e
    obtain ⟨v1, g1, r1⟩ := q.get e1
    obtain ⟨v2, g2, r2⟩ := q'.get e2
    refine ⟨⟨vs, us, v1, v2, hs, hs', g1, g2⟩, fun y H'' hy => ?_⟩
    obtain ⟨T, z1, z2, rfl, hT, rfl, hy1, hy2⟩ := hy
    have := hy1 vs hs
    rw [g1] at this
    cases this
    have := hy2 us hs'
    rw [g2] at this
    cases this
    exact pair_new2 w hT r1 r2
  · obtain ⟨xs, ys, h1, h2, e⟩ := key _ e
    obtain ⟨vs, hs, q⟩ := items_live w (x.rd r) h1
    obtain ⟨us, hs', q'⟩ := items_live w (x.rd r') h2
    refine ⟨vs, us, hs, hs', ?_⟩
    rw [← q.length, ← q'.length]
    exact zipL_none e
theorem itr_range {lo : Int} {n : Nat} : ItR τ K α F H (Itr lo n) (Wk.of ((List.range n).map fun i => .int (lo + (i : Nat)))) := by
  intro i α' F' H' h' x w
  refine ⟨fun d e => ?_, fun e => ?_⟩
  · have e : ((List.range n).map fun i => D.int (lo + (i : Nat)))[i]? = some d := Option.some.inj e
    rw [List.getElem?_map] at e
    obtain ⟨j, e1, rfl⟩ := Option.map_eq_some_iff.mp e
    have hi : i < n := by
      have := (List.getElem?_eq_some_iff.mp e1).1
      simpa using this
    rw [List.getElem?_range hi] at e1
    cases e1
    refine ⟨hi, fun y H'' hy => ?_⟩
    obtain ⟨rfl, rfl⟩ := hy
    exact ⟨F', Ext.refl, w, .int _⟩
  · have e : ((List.range n).map fun i => D.int (lo + (i : Nat)))[i]? = none := Option.some.inj e
    have := List.getElem?_eq_none_iff.mp e
    have this : n ≤ i := by simpa using this
    exact this
theorem itr_rangeC {lo : Int} {n : Nat} : ItR τ K α F H (Itc lo (-1) n) (Wk.of ((List.range n).map fun i => .int (lo + (i : Nat) * -1))) := by
  intro i α' F' H' h' x w
  refine ⟨fun d e => ?_, fun e => ?_⟩
  · have e : ((List.range n).map fun i => D.int (lo + (i : Nat) * -1))[i]? = some d := Option.some.inj e
    rw [List.getElem?_map] at e
    obtain ⟨j, e1, rfl⟩ := Option.map_eq_some_iff.mp e
    have hi : i < n := by
      have := (List.getElem?_eq_some_iff.mp e1).1
      simpa using this
    rw [List.getElem?_range hi] at e1
    cases e1
    refine ⟨hi, fun y H'' hy => ?_⟩
    obtain ⟨rfl, rfl⟩ := hy
    exact ⟨F', Ext.refl, w, .int _⟩
  · have e : ((List.range n).map fun i => D.int (lo + (i : Nat) * -1))[i]? = none := Option.some.inj e
    have := List.getElem?_eq_none_iff.mp e
    have this : n ≤ i := by simpa using this
    exact this
end

section
variable {G : Cfg} {call : Str → List D → Hs → Res D} {X : Cx} {c : Ctx} {k : Nat} {W : WX} {S : Sm}
def tI (τ : List Addr) (K : PySem.W.Frag) (mg : Str → Option Value) (W : WX) (f : Sl → Hs → Res Wk) : TI := fun σ H R => ∃ α F h s, At τ K α F H h s σ ∧ IP τ K mg (fun c d H => W c d σ H) α F H (f s h) R
theorem tI.seq {A B : Type} {rel : Al → Hp → A → B → Prop} {f : Sl → Hs → Res A} {g : Sl → A → Hs → Res Wk} {σ : St} {H : Hp} {R : It → Hp → Prop} {Z : B → Hp → Prop}
    (p : tI τ X.K X.mg W (fun s h => (f s h).bind (g s)) σ H R)
    (i : ∀ α F H h s d b, At τ X.K α F H h s σ → rel α F d b → IP τ X.K X.mg (fun c d H => W c d σ H) α F H (g s d h) R → Z b H) : tR τ X.K X.mg W rel f σ H Z := by
  obtain ⟨α, F, h, s, a, p⟩ := p
  exact RP.start a ((IP.bind (rel := rel) p).mono fun b H1 ⟨α1, F1, h1, d, x, w, r, p1⟩ => i _ _ _ _ _ _ _ (a.ext x w) r p1)
theorem IP.seq {A B : Type} {rel : Al → Hp → A → B → Prop} {f : Sl → Hs → Res A} {g : A → Hs → Res Wk} {σ : St} {α : Al} {F H : Hp} {h : Hs} {s : Sl} {R : It → Hp → Prop} {Z : B → Hp → Prop} (a : At τ X.K α F H h s σ)
    (p : IP τ X.K X.mg (fun c d H => W c d σ H) α F H ((f s h).bind g) R)
    (i : ∀ α' F' H' h' d b, Ext α F H α' F' H' → At τ X.K α' F' H' h' s σ → rel α' F' d b → IP τ X.K X.mg (fun c d H => W c d σ H) α' F' H' (g d h') R → Z b H') : tR τ X.K X.mg W rel f σ H Z :=
  RP.start a ((IP.bind (rel := rel) p).mono fun b H1 ⟨α1, F1, h1, d, x, w, r, p1⟩ => i _ _ _ _ _ _ x (a.ext x w) r p1)
theorem _root_.L2.PI.no {X : Cx} {tg e : Expr} {t : TI} (i : ∀ σ H R, ¬ t σ H R) : PI X tg e t := ⟨fun pins s σ H R I q => absurd q (i σ H R)⟩
theorem tI_bad {f : Sl → Hs → Res Wk} (e : ∀ s h, f s h = .bad) {σ : St} {H : Hp} {R : It → Hp → Prop} : ¬ tI τ X.K X.mg W f σ H R := by
  rintro ⟨α, F, h, s, _, p⟩
  rw [e] at p
  exact p
theorem walk_plain (g : Gd τ G call X c k W) {tg it : Expr} (ih : PE X it (tE τ X.K X.mg W (S.e c it))) : PI X tg it (tI τ X.K X.mg W fun s h => (S.e c it s h).bind walkSeq) := by
  refine (pi_seqA ih).imp fun σ H R p => ?_
  refine tI.seq (rel := RD X.K) p fun α F H h s d v a r p => ?_
  unfold walkSeq at p
  split at p
  · split at p
    · rename_i l j xs hx
      cases r with
      | loc gl =>
        obtain ⟨vs, e3, _⟩ := cur_live a.1 gl hx
        exact ⟨_, rfl, .inl ⟨⟨vs, .of e3⟩, p.ok a.1 (itr_loc gl)⟩⟩
    · exact p.elim
  · cases r with
    | tup f q => exact ⟨_, rfl, .inr ⟨⟨_, Same.seqT a.1.sub f⟩, p.ok a.1 (itr_tup f q)⟩⟩
  · rename_i hnl _
    split at p
    · rename_i xs hx
      cases r with
      | lst f q => cases hx; exact ⟨_, rfl, .inl ⟨⟨_, .of (a.1.sub _ _ f)⟩, p.ok a.1 (itr_list (.of f) q)⟩⟩
      | scr f => cases hx; exact ⟨_, rfl, .inl ⟨⟨_, a.1.sub.seq f⟩, p.ok a.1 (itr_list f (RDs.ints _))⟩⟩
      | loc gl => exact absurd rfl (hnl _ _)
      | _ => cases hx
    · exact p.elim
theorem isBlt_ok (g : Gd τ G call X c k W) {x : Str} (h : isBlt G c x = true) : Gl X x ∧ X.mg x = none := by
  unfold isBlt at h
  rw [Bool.and_eq_true] at h
  exact ⟨g.gl h.1, g.top.blts x (List.contains_iff_mem.mp h.2)⟩
theorem star1 {a : Expr} {env : Env} (h : isStar a = false) : starEach [a] env = [(false, eval a env)] := starEach_cons h
theorem star2 {a b : Expr} {env : Env} (h : isStar a = false) (h' : isStar b = false) : starEach [a, b] env = [(false, eval a env), (false, eval b env)] := by rw [starEach_cons h, star1 h']
def WkOk (G : Cfg) (c : Ctx) (tg it : Expr) : WkK → Prop
  | .seq => True
  | .rng1 a => ∃ p pos, it = .Call (.Name "range" p) [a] [] pos ∧ isBlt G c "range" = true ∧ isStar a = false
  | .rng2 a b => ∃ p pos, it = .Call (.Name "range" p) [a, b] [] pos ∧ isBlt G c "range" = true ∧ isStar a = false ∧ isStar b = false
  | .rng3 a b d => ∃ p pos, it = .Call (.Name "range" p) [a, b, d] [] pos ∧ isBlt G c "range" = true ∧ isStar a = false ∧ isStar b = false ∧ isStar d = false
  | .enm a => ∃ p pos ts j tp, tg = .Tuple ts j tp ∧ it = .Call (.Name "enumerate" p) [a] [] pos ∧ isBlt G c "enumerate" = true ∧ isStar a = false
  | .zip a b => ∃ p pos ts j tp, tg = .Tuple ts j tp ∧ it = .Call (.Name "zip" p) [a, b] [] pos ∧ isBlt G c "zip" = true ∧ isStar a = false ∧ isStar b = false
  | .no => True
theorem walkK_spec (G : Cfg) (c : Ctx) (tg it : Expr) : WkOk G c tg it (walkK G c tg it) := by
  unfold walkK
  split
  · rename_i x p es pos
    split
    · rename_i hb
      split
      · rename_i hx
        subst hx
        split
        · split
          · trivial
          · rename_i hs; exact ⟨p, pos, rfl, hb, by simpa using hs⟩
        · split
          · trivial
          · rename_i hs
            simp only [Bool.or_eq_true, not_or, Bool.not_eq_true] at hs
            exact ⟨p, pos, rfl, hb, hs.1, hs.2⟩
        · split
          · trivial
          · rename_i hs
            simp only [Bool.or_eq_true, not_or, Bool.not_eq_true] at hs
            exact ⟨p, pos, rfl, hb, hs.1.1, hs.1.2, hs.2⟩
        · trivial
      · split
        · rename_i hx
          subst hx
          split
          · split
            · trivial
            · rename_i hs; exact ⟨p, pos, _, _, _, rfl, rfl, hb, by simpa using hs⟩
          · trivial
        · split
          · rename_i hx
            subst hx
            split
            · split
              · trivial
              · rename_i hs
                simp only [Bool.or_eq_true, not_or, Bool.not_eq_true] at hs
                exact ⟨p, pos, _, _, _, rfl, rfl, hb, hs.1, hs.2⟩
            · trivial
          · trivial
    · trivial
  · trivial
theorem rng_ok {K : PySem.W.Frag} {mg : Str → Option Value} {E : XK} {α : Al} {F H : Hp} {h : Hs} {d e : D} {R : It → Hp → Prop} (w : Wd τ K α F H h) (p : IP τ K mg E α F H (walkRng d e h) R) :
    ∃ m n : Int, d = .int m ∧ e = .int n ∧ (-(2 ^ 62) ≤ m ∧ m < 2 ^ 62 ∧ -(2 ^ 62) ≤ n ∧ n < 2 ^ 62) ∧ R (Itr m (n - m).toNat) H := by
  unfold walkRng at p
  split at p
  · split at p
    · rename_i hz
      exact ⟨_, _, rfl, rfl, hz, p.ok w itr_range⟩
    · exact p.elim
  · exact p.elim
theorem walk_ok (g : Gd τ G call X c k W) (ih : ∀ e, PE X e (tE τ X.K X.mg W (S.e c e))) (tg it : Expr) : PI X tg it (tI τ X.K X.mg W (walkE G S c tg it)) := by
  have sp := walkK_spec G c tg it
  unfold walkE
  cases hk : walkK G c tg it with
  | seq => exact walk_plain g (ih it)
  | no => exact .no fun σ H R => tI_bad fun s h => rfl
  | rng1 a =>
    rw [hk] at sp
    obtain ⟨p, pos, rfl, hb, hs⟩ := sp
    obtain ⟨h1, h2⟩ := isBlt_ok g hb
    refine (pi_range1 h1 h2 (pa_cons (ih a) pa_nil (starEach_cons hs)) (star1 hs)).imp fun σ H R p => ?_
    refine tI.seq (rel := RD X.K) p fun α F H h s d v a r p => ?_
    obtain ⟨m, n, e1, rfl, hz, q⟩ := rng_ok a.1 p
    cases e1
    cases r
    refine ⟨n, rfl, hz.2.2.1, hz.2.2.2, ?_⟩
    rw [Int.sub_zero] at q
    exact q
  | rng2 a b =>
    rw [hk] at sp
    obtain ⟨p, pos, rfl, hb, hs, hs'⟩ := sp
    obtain ⟨h1, h2⟩ := isBlt_ok g hb
    refine (pi_range2 h1 h2 (pa_cons (ih a) (pa_cons (ih b) pa_nil (starEach_cons hs')) (starEach_cons hs)) (star2 hs hs') (hs2 := star1 hs')).imp fun σ H R p => ?_
    refine tI.seq (rel := RD X.K) p fun α F H h s d v a r p => ?_
    refine IP.seq (rel := RD X.K) (f := S.e c b) a p fun α' F' H' h' e v' x' a' r' p => ?_
    obtain ⟨m, n, rfl, rfl, hz, q⟩ := rng_ok a'.1 p
    cases r
    cases r'
    exact ⟨m, n, rfl, hz, q⟩
  | rng3 a b d =>
    rw [hk] at sp
    obtain ⟨p, pos, rfl, hb, hs, hs', hs3⟩ := sp
    obtain ⟨h1, h2⟩ := isBlt_ok g hb
    refine (pi_range3 h1 h2 (pa_cons (ih a) (pa_cons (ih b) (pa_cons (ih d) pa_nil (starEach_cons hs3)) (starEach_cons hs')) (starEach_cons hs)) (starEach_cons hs) (by rw [star2 hs' hs3]; rfl)).imp fun σ H R p => ?_
    refine tI.seq (rel := RD X.K) p fun α F H h s d1 v a r p => ?_
    refine IP.seq (rel := RD X.K) (f := S.e c b) a p fun α' F' H' h' e v' x' a' r' p => ?_
    refine IP.seq (rel := RD X.K) (f := S.e c d) a' p fun α2 F2 H2 h2 e2 v2 x2 a2 r2 p => ?_
    unfold walkRng3 at p
    split at p
    · split at p
      · rename_i hz
        obtain ⟨rfl, z1, z2, z3, z4⟩ := hz
        cases r
        cases r'
        cases r2
        exact ⟨_, _, _, _, rfl, RgC.neg z1 z2 z3 z4, p.ok a2.1 itr_rangeC⟩
      · exact p.elim
    · exact p.elim
  | zip a b =>
    rw [hk] at sp
    obtain ⟨p, pos, ts, j, tp, rfl, rfl, hb, hs, hs'⟩ := sp
    obtain ⟨h1, h2⟩ := isBlt_ok g hb
    refine (RZ.pi_zipA h1 h2 (pa_cons (ih a) (pa_cons (ih b) pa_nil (starEach_cons hs')) (starEach_cons hs)) (starEach_cons hs) (by rw [star1 hs']; rfl)).imp fun σ H R p => ?_
    refine tI.seq (rel := RD X.K) p fun α F H h s d v a r p => ?_
    refine IP.seq (rel := RD X.K) (f := S.e c b) a p fun α' F' H' h' e u x' a' r' p2 => ?_
    clear p
    replace r := x'.rd r
    unfold walkZip at p2
    split at p2
    · cases r with
      | tup f q => cases r' with
        | tup f' q' => exact ⟨_, _, _, _, rfl, .inr ⟨Same.seqT a'.1.sub f, Same.seqT a'.1.sub f', p2.ok a'.1 (itr_zipT f q f' q')⟩⟩
    · rename_i xs ys
      cases r with
      | lst f q => cases r' with
        | lst f' q' => exact ⟨_, _, _, _, rfl, .inl ⟨.of (a'.1.sub _ _ f), .of (a'.1.sub _ _ f'), p2.ok a'.1 (itr_zipL (n := (Wk.of (zipL xs ys)).most) (RD.lst f q) (RD.lst f' q'))⟩⟩
    · split at p2
      · rename_i xs ys e1 e2
        have rf : ∀ {d : D} {v : V} {xs : List D}, RD X.K α' F' d v → d.items h' = some xs → ∃ a, v = .ref a := fun r e => by
          cases r <;> first | exact ⟨_, rfl⟩ | cases e
        obtain ⟨a1, rfl⟩ := rf r e1
        obtain ⟨b1, rfl⟩ := rf r' e2
        obtain ⟨vs, hs1, _⟩ := items_live a'.1 r e1
        obtain ⟨us, hs2, _⟩ := items_live a'.1 r' e2
        exact ⟨_, _, _, _, rfl, .inl ⟨hs1, hs2, p2.ok a'.1 (itr_zipL r r')⟩⟩
      · exact p2.elim
  | enm a =>
    rw [hk] at sp
    obtain ⟨p, pos, ts, j, tp, rfl, rfl, hb, hs⟩ := sp
    obtain ⟨h1, h2⟩ := isBlt_ok g hb
    refine (pi_enumA h1 h2 (pa_cons (ih a) pa_nil (starEach_cons hs)) (star1 hs)).imp fun σ H R p => ?_
    refine tI.seq (rel := RD X.K) p fun α F H h s d v a r p => ?_
    unfold walkEnm at p
    split at p
    · split at p
      · rename_i l j xs hx
        cases r with
        | loc gl =>
          obtain ⟨vs, e3, _⟩ := cur_live a.1 gl hx
          exact ⟨_, rfl, .inl ⟨⟨vs, .of e3⟩, p.ok a.1 (itr_enumLoc gl)⟩⟩
      · exact p.elim
    · rename_i hnl
      split at p
      · rename_i xs hx
        cases r with
        | lst f q => cases hx; exact ⟨_, rfl, .inl ⟨⟨_, .of (a.1.sub _ _ f)⟩, p.ok a.1 (itr_enumL (.of f) q)⟩⟩
        | scr f => cases hx; exact ⟨_, rfl, .inl ⟨⟨_, a.1.sub.seq f⟩, p.ok a.1 (itr_enumL f (RDs.ints _))⟩⟩
        | tup f q => cases hx; exact ⟨_, rfl, .inr ⟨⟨_, Same.seqT a.1.sub f⟩, p.ok a.1 (itr_enumT f q)⟩⟩
        | loc gl => exact absurd rfl (hnl _ _)
        | _ => cases hx
      · exact p.elim
end
end Bk

/-! BkComp: list comprehensions. -/
namespace Bk
open PySem PySem.Spec PyProof.Rows L2
section
variable {G : Cfg} {call : Str → List D → Hs → Res D} {X : Cx} {c : Ctx} {k : Nat} {W : WX} {S : Sm}
abbrev W0 : WX := fun _ _ _ _ => False
theorem relSc_eq {scope sc : Scope} {env : Env} (h : env.scope = sc) : relabel scope env = relSc scope sc := by
  subst h
  rfl
theorem lookup_rel {sc : Scope} : ∀ {names : List (Str × NameKind)} {x : Str} {k : NameKind},
    (names.map fun (n, k) => if (k == NameKind.free && sc.kind == .function && sc.names.lookup n == some .cell) then (n, NameKind.cell) else (n, k)).lookup x = some k → True := fun _ => trivial
/-- a comprehension's block is a good context -/
theorem Gd.blk (g : Gd τ G call X c k W) {scope : Scope} {own : List (Str × Nat)} (ok : blkC c.nm c.sc scope own = true) (s : Shared) (H : Hp) (C : Addr) (cl : List (Str × Addr)) (fp : List Addr) :
    Gd τ G call (X.blk s H scope (compEnvC scope cl C X.env) fp) ⟨c.nm, relSc scope c.sc, some scope, c.gen⟩ k W0 := by
  have hk : scope.kind = .function := by
    unfold blkC at ok
    cases hs : scope.kind <;> rw [hs] at ok <;> first | rfl | (simp at ok)
  refine ⟨g.calm, g.nm, g.nd, g.dbg, ?_, hk, g.room, fun x hx => ?_, takes0, PassesOwn.never, (fun h => nomatch h), g.top, g.gen⟩
  · show relabel scope X.env = _
    exact relSc_eq g.sc
  · unfold stoN at hx
    simp only at hx
    split at hx
    · rename_i h; exact .inr h
    · split at hx
      · rename_i h
        refine .inl ?_
        show (scope.names.lookup x == some .cell) = true
        rw [h]; rfl
      · cases hx
    · cases hx
theorem ownIx_spec {nm : List Str} : ∀ {l : List Str} {own : List (Str × Nat)}, l.foldr (fun x r => match r, nameAt nm x with
  | some l, some i => some ((x, i) :: l)
  | _, _ => none) (some []) = some own → ∀ p ∈ own, nameAt nm p.1 = some p.2
  | [], own, e, p, hp => by cases e; cases hp
  | x :: l, own, e, p, hp => by
    rw [List.foldr_cons] at e
    split at e
    · rename_i l' i h1 h2
      cases e
      rcases List.mem_cons.mp hp with rfl | hp
      · exact h2
      · exact ownIx_spec h1 p hp
    · cases e
/-- from a state that is there, whatever has come since the state at which the answer was wanted -/
theorem RP.seqX {K : PySem.W.Frag} {mg : Str → Option Value} {E : XK} {α0 α : Al} {F0 F H0 H : Hp} {h : Hs} {s : Sl} {σ : St} {A B C C' : Type} {rel : Al → Hp → A → B → Prop} {rel' : Al → Hp → C → C' → Prop} {f : Sl → Hs → Res A} {g : A → Hs → Res C} {Q : C' → Hp → Prop} {Z : B → Hp → Prop}
    (a : At τ K α F H h s σ) (p : RP τ K mg E rel' α0 F0 H0 ((noX (f s h)).bind g) Q)
    (i : ∀ α' F' H' h' d b, Ext α F H α' F' H' → At τ K α' F' H' h' s σ → rel α' F' d b → RP τ K mg E rel' α0 F0 H0 (g d h') Q → Z b H') : tR τ K mg W0 rel f σ H Z := by
  refine RP.start a ?_
  revert p
  generalize f s h = o
  intro p
  cases o with
  | ok d h' => exact fun α1 F1 H1 b x w q => i _ _ _ _ _ _ x (a.ext x w) q p
  | exc e h' => exact p.elim
  | bad => exact p.elim
theorem PTs.imp {X : Cx} {e : List Expr} {t t' : TT} (p : PTs X e t) (i : ∀ σ H Q, t' σ H Q → t σ H Q) : PTs X e t' := ⟨fun pins s σ H Q I q => p.run pins s σ H Q I (i σ H Q q)⟩
def ifsE (S : Sm) (c : Ctx) (ifs : List Expr) (s : Sl) (h : Hs) : Res Bool := match ifs with
  | [] => Res.ok true h
  | [t] => S.t c t s h
  | _ => .bad
theorem ifs_ok (g : Gd τ G call X c k W) (ih : ∀ e, PT X e (tT τ X.K X.mg W (S.t c e))) : ∀ ifs : List Expr, PTs X ifs (tT τ X.K X.mg W (ifsE S c ifs))
  | [] => PTs.imp pts_nil fun σ H Q p => by
    obtain ⟨α, F, h, s, a, p⟩ := p
    exact p.ok a.1 rfl
  | [t] => PTs.imp (pts_one (ih t)) fun σ H Q p => p
  | _ :: _ :: _ => ⟨fun pins s σ H Q I p => by
    obtain ⟨α, F, h, s, a, p⟩ := p
    exact p.elim⟩
theorem compTurn_eq {own : List (Str × Nat)} {elt tg : Expr} {ifs : List Expr} {s0 : Sl} {d : D} {h : Hs} : compTurn S c elt tg ifs own s0 d h = match setT c (fun x => own.any fun p => p.1 == x) h 4 tg d s0 with
  | none => .bad
  | some s2 => (noX (ifsE S c ifs s2 h)).bind fun b h4 => if b then (noX (S.e c elt s2 h4)).bind fun y h5 => .ok (some y) h5 else .ok none h4 := by
  unfold compTurn
  cases setT c (fun x => own.any fun p => p.1 == x) h 4 tg d s0 with
  | none => rfl
  | some s2 =>
    match ifs with
    | [] => rfl
    | [t] => rfl
    | _ :: _ :: _ => rfl
theorem res_assoc {A B C : Type} (r : Res A) (f : A → Hs → Res B) (k : B → Hs → Res C) : (r.bind f).bind k = r.bind fun a h => (f a h).bind k := by cases r <;> rfl
/-- the turns of a comprehension: D is the new list -/
theorem comp_turns (g : Gd τ G call X c k W) {scope : Scope} {own : List (Str × Nat)} (hown : ∀ p ∈ own, nameAt c.nm p.1 = some p.2) {elt tg : Expr} {ifs : List Expr} {σ : St} {Q : VK} {l : Bool}
    {α1 : Al} {F1 H1 : Hp} {h1 : Hs} {s : Sl} (a1 : At τ X.K α1 F1 H1 h1 s σ) {J : It} {w : Wk} (hJ : ItR τ X.K α1 F1 H1 J w)
    (p : RP τ X.K X.mg (fun c d H => W c d σ H) (RD X.K) α1 F1 H1 ((compL w (compTurn S ⟨c.nm, relSc scope c.sc, some scope, c.gen⟩ elt tg ifs own (clear s (own.map (·.2)))) w.most 0 [] h1).bind fun ys h6 => mkL l ys h6) Q)
    {D : Addr} (hD : H1 D = none) :
    ∃ Z : Nat → Nat → Hp → Prop, (∃ m, Z 0 m (upd H1 D (.lst []))) ∧ ∀ i m H, Z i m H →
      (J.stop i H ∧ Q (.ref D) H) ∨ (J.go i H ∧ ∃ Nx : Hp → Prop, (∀ H', Nx H' → ∃ m', m' < m ∧ Z (i + 1) m' H') ∧ ∀ x H', J.yld i H x H' →
        tGn τ X.K (own.map (·.2)) (fun h d s => setT ⟨c.nm, relSc scope c.sc, some scope, c.gen⟩ (fun x => own.any fun p => p.1 == x) h 4 tg d s) x (wipe σ (own.map (·.2))) H' fun σ2 H2 => wipe σ2 (own.map (·.2)) = wipe σ (own.map (·.2)) ∧
          tT τ X.K X.mg W0 (ifsE S ⟨c.nm, relSc scope c.sc, some scope, c.gen⟩ ifs) σ2 H2 fun b H3 => if b = true then tE τ X.K X.mg W0 (S.e ⟨c.nm, relSc scope c.sc, some scope, c.gen⟩ elt) σ2 H3 fun y H4 =>
            ∃ acc, H4 D = some (.lst acc) ∧ acc.length < sizeLine ∧ Nx (upd H4 D (.lst (acc ++ [y]))) else Nx H3) := by
  refine ⟨fun i m H => ∃ α F h acc vs, Ext α1 F1 H1 α F H ∧ Wd τ X.K α F H h ∧ (∀ l k, gt α l k ≠ some D) ∧ F D = none ∧ H D = some (.lst vs) ∧ RDs X.K α F acc vs ∧
    RP τ X.K X.mg (fun c d H => W c d σ H) (RD X.K) α1 F1 H1 ((compL w (compTurn S ⟨c.nm, relSc scope c.sc, some scope, c.gen⟩ elt tg ifs own (clear s (own.map (·.2)))) m i acc h).bind fun ys h6 => mkL l ys h6) Q, ⟨w.most, ?_⟩, ?_⟩
  · obtain ⟨w', x', hF, hn⟩ := a1.1.fresh hD (.lst [])
    exact ⟨α1, F1, h1, [], [], x', w', hn, hF, upd_same, .nil, p⟩
  · rintro i m H ⟨α, F, h, acc, vs, x, wd, hn, hF, hH, rs, p⟩
    obtain ⟨jgo, jstop⟩ := hJ i α F H h x wd
    unfold compL at p
    cases hx : w.nxt i h with
    | none => rw [hx] at p; exact p.elim
    | some o =>
      cases o with
      | none =>
        rw [hx] at p
        refine .inl ⟨jstop hx, ?_⟩
        have p : RP τ X.K X.mg (fun c d H => W c d σ H) (RD X.K) α1 F1 H1 (mkL l acc h) Q := p
        unfold mkL at p
        split at p
        · split at p
          · cases h with
            | nil => exact p.elim
            | cons top rest =>
              cases α with
              | nil => exact absurd wd.len (by simp)
              | cons at_ ar =>
                have hl : (at_ :: ar).length = (top :: rest).length := wd.len
                obtain ⟨w', l', i', n'⟩ := wd.adoptL hH hF hn (RO.lst rs) (by
                  have := RDs.okLen rs
                  rw [hl] at this
                  exact this)
                refine p ((at_ ++ [D]) :: ar) F H (.ref D) ⟨x.len, fun l k a e => l' _ _ _ (x.look l k a e), x.sub, fun a o e n => ?_, x.fnew⟩ w' (.loc n')
                obtain ⟨⟨o1, e1, k1⟩, n1⟩ := x.stay a o e n
                refine ⟨⟨o1, e1, k1⟩, fun l k z => ?_⟩
                rcases i' _ _ _ z with q | q
                · exact n1 _ _ q
                · rw [q, hD] at e; cases e
          · obtain ⟨w', s'⟩ := wd.adoptF hH hF hn
            refine p α (upd F D (.lst vs)) H (.ref D) ⟨x.len, x.look, x.sub.trans s', x.stay, fun a o e n f => ?_⟩ w' (.lst upd_same (rs.mono (fun _ _ _ e => e) s'))
            rw [upd_ne (ne_of_none e hD)]
            exact x.fnew a o e n f
        · exact p.elim
      | some d =>
        rw [hx] at p
        cases m with
        | zero => exact p.elim
        | succ m =>
          obtain ⟨jg, jy⟩ := jgo d hx
          refine .inr ⟨jg, fun H' => ∃ α F h acc vs, Ext α1 F1 H1 α F H' ∧ Wd τ X.K α F H' h ∧ (∀ l k, gt α l k ≠ some D) ∧ F D = none ∧ H' D = some (.lst vs) ∧ RDs X.K α F acc vs ∧
            RP τ X.K X.mg (fun c d H => W c d σ H) (RD X.K) α1 F1 H1 ((compL w (compTurn S ⟨c.nm, relSc scope c.sc, some scope, c.gen⟩ elt tg ifs own (clear s (own.map (·.2)))) m (i + 1) acc h).bind fun ys h6 => mkL l ys h6) Q,
            fun H' q => ⟨m, Nat.lt_succ_self m, q⟩, fun v H' hy => ?_⟩
          obtain ⟨F', x', wd', rd⟩ := jy v H' hy
          have p : RP τ X.K X.mg (fun c d H => W c d σ H) (RD X.K) α1 F1 H1 (((compTurn S ⟨c.nm, relSc scope c.sc, some scope, c.gen⟩ elt tg ifs own (clear s (own.map (·.2))) d h).bind fun r h' => match r with
            | some y => if acc.length < sizeLine then compL w (compTurn S ⟨c.nm, relSc scope c.sc, some scope, c.gen⟩ elt tg ifs own (clear s (own.map (·.2)))) m (i + 1) (acc ++ [y]) h' else .bad
            | none => compL w (compTurn S ⟨c.nm, relSc scope c.sc, some scope, c.gen⟩ elt tg ifs own (clear s (own.map (·.2)))) m (i + 1) acc h').bind fun ys h6 => mkL l ys h6) Q := p
          rw [compTurn_eq] at p
          have hst : H' D = some (.lst vs) ∧ ∀ l k, gt α l k ≠ some D := x'.stayO hH hn
          have hF' : F' D = none := x'.fnew D _ hH hn hF
          have r0 : SR X.K α F' (clear s (own.map (·.2))) (wipe σ (own.map (·.2))) := ((a1.2.mono x).mono x').wiped _
          cases hs : setT ⟨c.nm, relSc scope c.sc, some scope, c.gen⟩ (fun x => own.any fun p => p.1 == x) h 4 tg d (clear s (own.map (·.2))) with
          | none => rw [hs] at p; exact p.elim
          | some s2 =>
            rw [hs] at p
            refine ⟨α, F', h, clear s (own.map (·.2)), d, s2, ⟨wd', r0⟩, rd, hs, fun σ2 r2 o2 => ⟨o2.wipe, ?_⟩⟩
            simp only [res_assoc] at p
            refine RP.seqX (rel := relB) (f := ifsE S ⟨c.nm, relSc scope c.sc, some scope, c.gen⟩ ifs) ⟨wd', r2⟩ p fun α3 F3 H3 h3 b b' x3 a3 rb p => ?_
            have rb' : b = b' := rb
            subst rb'
            have hst3 := x3.stayO hst.1 hst.2
            have hF3 := x3.fnew D _ hst.1 hst.2 hF'
            have rs3 : RDs X.K α3 F3 acc vs := x3.rds (x'.rds rs)
            have X3 := (x.trans x').trans x3
            cases b with
            | false =>
              refine iteF ⟨α3, F3, h3, acc, vs, X3, a3.1, hst3.2, hF3, hst3.1, rs3, ?_⟩
              simpa using p
            | true =>
              refine iteT ?_
              have p : RP τ X.K X.mg (fun c d H => W c d σ H) (RD X.K) α1 F1 H1 ((noX (S.e ⟨c.nm, relSc scope c.sc, some scope, c.gen⟩ elt s2 h3)).bind fun y h5 =>
                (if acc.length < sizeLine then compL w (compTurn S ⟨c.nm, relSc scope c.sc, some scope, c.gen⟩ elt tg ifs own (clear s (own.map (·.2)))) m (i + 1) (acc ++ [y]) h5 else .bad).bind fun ys h6 => mkL l ys h6) Q := by
                simp only [if_true, res_assoc] at p
                exact p
              refine RP.seqX (rel := RD X.K) (f := S.e ⟨c.nm, relSc scope c.sc, some scope, c.gen⟩ elt) a3 p fun α4 F4 H4 h4 y v' x4 a4 ry p => ?_
              have hst4 := x4.stayO hst3.1 hst3.2
              have hF4 := x4.fnew D _ hst3.1 hst3.2 hF3
              have rs4 := x4.rds rs3
              split at p
              · rename_i hz
                refine ⟨vs, hst4.1, by rw [← rs4.length]; exact hz, α4, F4, h4, acc ++ [y], vs ++ [v'], ?_, a4.1.priv hF4 hst4.2 _ (fun ps z => by rw [hst4.1] at z; cases z), hst4.2, hF4, upd_same, rs4.append (.cons ry .nil), p⟩
                have X4 := X3.trans x4
                refine ⟨X4.len, X4.look, X4.sub, fun a o e n => ?_, X4.fnew⟩
                obtain ⟨⟨o1, e1, k1⟩, n1⟩ := X4.stay a o e n
                exact ⟨⟨o1, by rw [upd_ne (ne_of_none e hD)]; exact e1, k1⟩, n1⟩
              · exact p.elim
theorem foldedSet {it : Expr} {env : Env} (h : isSet it = false) : ∀ x, foldedSetIterable it env x = pure x := by
  intro x
  cases it <;> first | rfl | cases h
/-- the parts of a comprehension that is told -/
theorem comp_parts {elt tg it : Expr} {ifs : List Expr} {scope : Scope} {pos : Pos} : (∀ s h, compE G S c elt tg it ifs scope pos s h = .bad) ∨ ∃ own, isSet it = false ∧ blkC c.nm c.sc scope own = true ∧ (∀ p ∈ own, nameAt c.nm p.1 = some p.2) ∧
    ∀ s h, compE G S c elt tg it ifs scope pos s h = (walkE G S c tg it s h).bind fun w h1 => (compL w (compTurn S ⟨c.nm, relSc scope c.sc, some scope, c.gen⟩ elt tg ifs own (clear s (own.map (·.2)))) w.most 0 [] h1).bind fun ys h6 => mkL (G.isLoc pos) ys h6 := by
  unfold compE
  cases h1 : isSet it with
  | true => exact .inl fun s h => rfl
  | false =>
    cases h2 : ownIx c.nm scope with
    | none => exact .inl fun s h => rfl
    | some own =>
      cases h3 : blkC c.nm c.sc scope own with
      | false => exact .inl fun s h => by simp [h3]
      | true => exact .inr ⟨own, rfl, h3, ownIx_spec h2, fun s h => by simp [h3]⟩
/-- what is walked and made, read -/
theorem comp_read (g : Gd τ G call X c k W) {scope : Scope} {own : List (Str × Nat)} (hown : ∀ p ∈ own, nameAt c.nm p.1 = some p.2) {elt tg it : Expr} {ifs : List Expr} {σ : St} {H : Hp} {Q : VK} {l : Bool}
    (p : tE τ X.K X.mg W (fun s h => (walkE G S c tg it s h).bind fun w h1 => (compL w (compTurn S ⟨c.nm, relSc scope c.sc, some scope, c.gen⟩ elt tg ifs own (clear s (own.map (·.2)))) w.most 0 [] h1).bind fun ys h6 => mkL l ys h6) σ H Q) :
    tLc (tI τ X.K X.mg W (walkE G S c tg it)) (tGn τ X.K (own.map (·.2)) fun h d s => setT ⟨c.nm, relSc scope c.sc, some scope, c.gen⟩ (fun x => own.any fun p => p.1 == x) h 4 tg d s)
      (tT τ X.K X.mg W0 (ifsE S ⟨c.nm, relSc scope c.sc, some scope, c.gen⟩ ifs)) (tE τ X.K X.mg W0 (S.e ⟨c.nm, relSc scope c.sc, some scope, c.gen⟩ elt)) (own.map (·.2)) σ H Q := by
  obtain ⟨α, F, h, s, a, p⟩ := p
  refine ⟨α, F, h, s, a, ?_⟩
  simp only [] at p
  revert p
  generalize walkE G S c tg it s h = o
  intro p
  cases o with
  | ok w h' =>
    intro α1 F1 H1 J x wd hJ D hD
    exact comp_turns g hown (a.ext x wd) hJ (p.ext x) hD
  | exc e h' => exact p
  | bad => exact p
section
variable (g : Gd τ G call X c k W) (ihE : ∀ X c W, Gd τ G call X c k W → ∀ e, PE X e (tE τ X.K X.mg W (S.e c e))) (ihT : ∀ X c W, Gd τ G call X c k W → ∀ e, PT X e (tT τ X.K X.mg W (S.t c e)))
include g ihE ihT
theorem pe_comp {elt tg it : Expr} {ifs : List Expr} {scope : Scope} {pos : Pos} : PE X (.ListComp elt [⟨tg, it, ifs, 0⟩] scope pos) (tE τ X.K X.mg W (compE G S c elt tg it ifs scope pos)) := by
  rcases comp_parts (G := G) (S := S) (c := c) (elt := elt) (tg := tg) (it := it) (ifs := ifs) (scope := scope) (pos := pos) with h | ⟨own, h1, h2, h3, h4⟩
  · exact .no fun σ H Q => tR_bad h
  · have hb : BlkOk X.N X.env.scope scope own := by rw [g.nm, g.sc]; exact blkOk_by h2
    refine (pe_lc (te := tE τ X.K X.mg W0 (S.e ⟨c.nm, relSc scope c.sc, some scope, c.gen⟩ elt)) (tt := tT τ X.K X.mg W0 (ifsE S ⟨c.nm, relSc scope c.sc, some scope, c.gen⟩ ifs)) (g := tGn τ X.K (own.map (·.2)) fun h d s => setT ⟨c.nm, relSc scope c.sc, some scope, c.gen⟩ (fun x => own.any fun p => p.1 == x) h 4 tg d s) g.calm (by rw [g.nm]; exact g.nd) (walk_ok g (fun e => ihE X c W g e) tg it) hb
      (fun s H C cl fp => setT_ok (g.blk h2 s H C cl fp) (ix := own.map (·.2)) (ok := fun x => own.any fun p => p.1 == x) (fun x i hx hi _ => ?_) 4 tg)
      (fun s H C cl fp => ifs_ok (g.blk h2 s H C cl fp) (fun e => ihT _ _ _ (g.blk h2 s H C cl fp) e) ifs)
      (fun s H C cl fp => ihE _ _ _ (g.blk h2 s H C cl fp) elt) (foldedSet h1)).imp fun σ H Q p => ?_
    · obtain ⟨q, hq, e⟩ := List.any_eq_true.mp hx
      have e' : q.1 = x := eq_of_beq e
      have := h3 q hq
      rw [e'] at this
      have hi : nameAt c.nm x = some i := hi
      rw [hi] at this
      cases this
      exact List.mem_map.mpr ⟨q, hq, rfl⟩
    · rw [show tE τ X.K X.mg W (compE G S c elt tg it ifs scope pos) = tE τ X.K X.mg W (fun s h => (walkE G S c tg it s h).bind fun w h1 => (compL w (compTurn S ⟨c.nm, relSc scope c.sc, some scope, c.gen⟩ elt tg ifs own (clear s (own.map (·.2)))) w.most 0 [] h1).bind fun ys h6 => mkL (G.isLoc pos) ys h6) by congr 1; funext s h; exact h4 s h] at p
      exact comp_read g h3 p
end
end
end Bk

/-! BkPair: walks with two names. -/
namespace Bk
open PySem PySem.Spec PyProof.Rows L2
section
variable {prog : Program} {w : World} {A : Around} {E : Value → Shared → Prop} {s : Shared}
theorem go_tupIter {elts : List Expr} {kk : Nat} {pos : Pos} {I l T : Addr} {i : Nat} {Q : Unit → Shared → Prop} (hit : s.heap.IsTupleIter I l i) (hQ : Q () s) : wpAny (model prog w) A (letOwnedTupleGo (.Tuple elts kk pos) (.ref I) (.ref T)) Q E s := by
  obtain ⟨ob, e1, e2, e3⟩ := hit
  unfold letOwnedTupleGo
  refine wpAny_bind (wpAny_load e1 ?_)
  rw [e2, e3]
  have no : ∀ b : Bool, ((["enumerate", "zip", "dict_itemiterator", "dict_reverseitemiterator", "odict_iterator", "itertools.zip_longest", "itertools.pairwise"] : List String).contains "tuple_iterator" && b) = false := fun b => by
    rw [show (["enumerate", "zip", "dict_itemiterator", "dict_reverseitemiterator", "odict_iterator", "itertools.zip_longest", "itertools.pairwise"] : List String).contains "tuple_iterator" = false from by decide]
    rfl
  show wpAny _ A (if ((["enumerate", "zip", "dict_itemiterator", "dict_reverseitemiterator", "odict_iterator", "itertools.zip_longest", "itertools.pairwise"] : List String).contains "tuple_iterator" && _) = true then _ else _) Q E s
  rw [if_neg (fun z => by rw [no] at z; cases z)]
  exact wpAny_pure hQ
/-- a tuple of tuples -/
theorem pairs_tup (hh : A.handled = none) (I ax : Addr) (hne : ax ≠ I) (items : Array Value) (Ts : Nat → Addr) (vals : Nat → Array Value) (hit : ∀ j, j < items.size → items[j]? = some (.ref (Ts j))) (hTI : ∀ j, j < items.size → Ts j ≠ I) :
    WalksU prog w A I (I :: ax :: (List.range items.size).map Ts) [I] items.size (fun j v => v = vals j) (fun j h => h.IsTupleIter I ax j ∧ h.IsTuple ax items ∧ ∀ m, m < items.size → h.IsTuple (Ts m) (vals m))
      (fun j T h => (j < items.size ∧ T = Ts j) ∧ h.IsTupleIter I ax (j + 1) ∧ h.IsTuple ax items ∧ ∀ m, m < items.size → h.IsTuple (Ts m) (vals m)) := by
  have fr : ∀ {h h' : Heap}, (∀ b ∈ I :: ax :: (List.range items.size).map Ts, ∀ o, h.get? b = some o → h'.get? b = some o) → ∀ m, m < items.size → h.IsTuple (Ts m) (vals m) → h'.IsTuple (Ts m) (vals m) := fun hk m hm q =>
    q.at fun o e => hk (Ts m) (List.mem_cons_of_mem _ (List.mem_cons_of_mem _ (List.mem_map.mpr ⟨m, List.mem_range.mpr hm, rfl⟩))) o e
  refine { sub := fun b hb => ?_, frame := fun _ _ _ st hk => ⟨st.1.at fun o e => hk I (by simp) o e, st.2.1.at fun o e => hk ax (by simp) o e, fun m hm => fr hk m hm (st.2.2 m hm)⟩, item := fun i s Q E hi st hQ => ?_, go := fun _ _ _ _ _ s Q _ hm hQ => go_tupIter hm.2.1 (hQ s.heap hm.2 fun _ _ _ e => e), apart := fun j T _ hm hmem => ?_, done := fun s Q E st hQ => ?_, self := fun _ _ _ _ st hQ => wpAny_pyIter_tupleiter st.1 hQ }
  · have : b = I := by simpa using hb
    rw [this]; exact List.mem_cons_self
  · refine wpAny_pyNext_tuple_item st.1 st.2.1 (hit i hi) fun h' it' sb => ?_
    have tt : ∀ m, m < items.size → h'.IsTuple (Ts m) (vals m) := fun m hm => (st.2.2 m hm).extBut sb.extBut (hTI m hm)
    exact hQ (Ts i) (vals i) h' s.toks rfl (tt i hi) ⟨⟨hi, rfl⟩, it', st.2.1.extBut sb.extBut hne, tt⟩ fun b o hb e => sb.extBut b o (fun z => hb (by simp [z])) e
  · have : T = I := by simpa using hmem
    exact hTI j hm.1.1 (hm.1.2 ▸ this)
  · exact wpAny_pyNext_tuple_end hh st.1 st.2.1 (by simp) fun h' he => hQ h' s.toks fun b o hb e => he b o (fun z => hb (by simp [z])) e
end
theorem walksU_len {P : Program} {w : World} {A : Around} {I : Addr} {fp wr : List Addr} {n m : Nat} {Pt : Nat → Array Value → Prop} {St : Nat → Heap → Prop} {Mid : Nat → Addr → Heap → Prop} (W : WalksU P w A I fp wr n Pt St Mid) (e : n = m) : WalksU P w A I fp wr m (fun i v => i < m ∧ Pt i v) St Mid := by
  subst e
  exact W.bound
end Bk

/-! BkGen: any, all, sum over generator expressions. -/
namespace Bk
open PySem PySem.Spec PyProof.Rows L2
theorem Wd.tabbed {K : PySem.W.Frag} {α : Al} {F H H' : Hp} {h : Hs} {P : Addr} (w : Wd τ K α F H h) (hP : P ∈ τ) (t : GxR.Tabbed P H H') : Wd τ K α F H' h ∧ Ext α F H α F H' := by
  obtain ⟨⟨ps, hps, _⟩, hF, hn⟩ := w.tabs P hP
  have t1 := t.1
  have ne : ∀ b o, F b = some o → b ≠ P := fun b o e z => by rw [z, hF] at e; cases e
  have na : ∀ l k a, gt α l k = some a → a ≠ P := fun l k a e z => hn l k (by rw [← z]; exact e)
  refine ⟨⟨w.shape, fun b o e => by rw [t.2 b (ne b o e)]; exact w.sub b o e, fun l k o e nd => ?_, w.inj, fun l k a e => by rw [t.2 a (na l k a e)]; exact w.there l k a e, w.lv, fun q hq => ?_⟩, ⟨rfl, fun _ _ _ e => e, Same.refl _, fun a o e n => ⟨?_, n⟩, fun _ _ _ _ e => e⟩⟩
  · obtain ⟨a, u, e1, e2, e3, r⟩ := w.live l k o e nd
    exact ⟨a, u, e1, e2, by rw [t.2 a (na l k a e1)]; exact e3, r⟩
  · by_cases z : q = P
    · subst z
      exact ⟨t.1, hF, hn⟩
    · obtain ⟨⟨qs, e1, e2⟩, f, n⟩ := w.tabs q hq
      exact ⟨⟨qs, by rw [t.2 q z]; exact e1, e2⟩, f, n⟩
  · by_cases z : a = P
    · subst z
      obtain ⟨qs, e1, _⟩ := t.1
      rw [hps] at e
      cases e
      exact ⟨_, e1, .inr ⟨⟨_, rfl⟩, _, rfl⟩⟩
    · exact ⟨o, by rw [t.2 a z]; exact e, .inl rfl⟩
/-! ### the results -/
theorem gAll_res {f : List PyData → Option (Option PyData)} (pss : List (List PyData)) {pz : Nat → Bool} {qf : Nat → Option PyData} (hz : ∀ (i : Nat) o, (pss[i]?).bind f = some o → pz i = o.isSome ∧ qf i = o) :
    ∀ (k i : Nat) (qs : List PyData), pss.length - i = k → i ≤ pss.length → gAll f (pss.drop i) = some qs → (passing pz pss.length i).length = qs.length ∧ (∀ j m : Nat, (passing pz pss.length i)[j]? = some m → qf m = qs[j]?) ∧ ∀ (m : Nat) ps, i ≤ m → pss[m]? = some ps → ∃ o, f ps = some o
  | 0, i, qs, hk, hi, e => by
    have : i = pss.length := by omega
    subst this
    rw [passing_end]
    rw [List.drop_length] at e
    cases e
    exact ⟨rfl, fun j m z => by simp at z, fun m ps hm z => by
      have := (List.getElem?_eq_some_iff.mp z).1
      omega⟩
  | k + 1, i, qs, hk, hi, e => by
    have hlt : i < pss.length := by omega
    rw [List.drop_eq_getElem_cons hlt] at e
    unfold gAll at e
    obtain ⟨o, e1, e⟩ := Option.bind_eq_some_iff.mp e
    obtain ⟨qs', e2, e⟩ := Option.map_eq_some_iff.mp e
    obtain ⟨h1, h2, h3⟩ := gAll_res pss hz k (i + 1) qs' (by omega) hlt e2
    obtain ⟨z1, z2⟩ := hz i o (by rw [List.getElem?_eq_getElem hlt]; exact e1)
    refine ⟨?_, ?_, fun m ps hm z => ?_⟩
    · cases o with
      | none => rw [passing_false hlt z1, ← e]; exact h1
      | some q => rw [passing_true hlt z1, ← e]; simp [h1]
    · intro j m hj
      cases o with
      | none => rw [passing_false hlt z1] at hj; rw [← e]; exact h2 j m hj
      | some q =>
        rw [passing_true hlt z1] at hj
        rw [← e]
        cases j with
        | zero => simp at hj; subst hj; exact z2
        | succ j => exact h2 j m (by simpa using hj)
    · by_cases hm' : m = i
      · subst hm'
        rw [List.getElem?_eq_getElem hlt] at z
        cases z
        exact ⟨o, e1⟩
      · exact h3 m ps (by omega) z
theorem gPres_get {own : List Str} : ∀ {xs : List D} {pss : List (List PyData)}, gPres own xs = some pss → pss.length = xs.length ∧ ∀ (i : Nat) (d : D), xs[i]? = some d → ∃ ps, pss[i]? = some ps ∧ gPre own d = some ps
  | [], pss, e => by cases e; exact ⟨rfl, fun i d z => by simp at z⟩
  | d :: r, pss, e => by
    unfold gPres at e
    obtain ⟨p, e1, e⟩ := Option.bind_eq_some_iff.mp e
    obtain ⟨ps, e2, rfl⟩ := Option.map_eq_some_iff.mp e
    obtain ⟨h1, h2⟩ := gPres_get e2
    refine ⟨by simp [h1], fun i d' z => ?_⟩
    cases i with
    | zero => simp at z; subst z; exact ⟨p, rfl, e1⟩
    | succ i => exact h2 i d' (by simpa using z)
section
variable {G : Cfg} {call : Str → List D → Hs → Res D} {X : Cx} {c : Ctx} {k : Nat} {W : WX} {S : Sm} {pins : List (Addr × Obj)}
theorem gScope_free {scope : Scope} {own : List Str} (hs : gScope c scope own = true) {y : Str} (hy : (y, NameKind.free) ∈ scope.names) : isFree scope y = true ∧ (nameAt c.nm y).isSome = true ∧ (c.sc.names.lookup y = some .cell ∨ c.sc.names.lookup y = some .free) := by
  unfold gScope at hs
  simp only [Bool.and_eq_true] at hs
  have h1 := List.all_eq_true.mp hs.1.1.1.2 _ hy
  have h2 : (isFree scope y && (nameAt c.nm y).isSome && (c.sc.names.lookup y == some .cell || c.sc.names.lookup y == some .free)) = true := by simpa using h1
  simp only [Bool.and_eq_true, Bool.or_eq_true] at h2
  exact ⟨h2.1.1, h2.1.2, by simpa using h2.2⟩
/-- a captured name's cell -/
theorem cell_at (g : Gd τ G call X c k W) {α : Al} {F H : Hp} {h : Hs} {s : Sl} {σ : St} {sh : Shared} {y : Str} {i : Nat} {d : D} (a : At τ X.K α F H h s σ) (I : Inv X pins σ H sh) (hn : nameAt c.nm y = some i) (hk : c.sc.names.lookup y = some .cell ∨ c.sc.names.lookup y = some .free) (e : s[i]? = some (some d)) :
    ∃ v cc u, RD X.K α F d v ∧ RelV v u ∧ X.env.cells.lookup y = some cc ∧ sh.heap.IsCell cc (some u) := by
  obtain ⟨v, e1, r⟩ := a.2.2 i d e
  obtain ⟨m, _, hl⟩ := I.loc
  have hv : Vis X.env.scope y := g.vis (by
    unfold seen
    rcases hk with z | z <;> rw [z])
  obtain ⟨u, ru, lk⟩ := hl i y v (g.at_ hn) e1 hv
  rcases lk with ⟨z, _⟩ | ⟨_, cc, z1, z2⟩
  · have z : X.env.scope.names.lookup y = some .local := z
    rw [g.sc] at z
    rcases hk with hk | hk <;> rw [hk] at z <;> cases z
  · exact ⟨v, cc, u, r, ru, z1, z2⟩
theorem cap_at (g : Gd τ G call X c k W) {scope : Scope} {own : List Str} (hs : gScope c scope own = true) {α : Al} {F H : Hp} {h : Hs} {s : Sl} {σ : St} {sh : Shared} (a : At τ X.K α F H h s σ) (I : Inv X pins σ H sh) {y : Str} {p : PyData}
    (e : gCap G c scope s h y = some p) : CapAt X scope sh.heap y p := by
  unfold gCap at e
  split at e
  · rename_i hlk
    obtain ⟨i, hn, e⟩ := Option.bind_eq_some_iff.mp e
    have hmem := PySem.mem_of_lookup hlk
    obtain ⟨_, _, hk⟩ := gScope_free hs hmem
    obtain ⟨d1, d2⟩ := g.nodbg hn
    split at e
    · rename_i d he
      obtain ⟨v, cc, u, r, ru, z1, z2⟩ := cell_at g a I hn hk he
      obtain ⟨as, rr⟩ := Dp.reads I p v u (now_of a.1 r e) ru
      exact ⟨d1, .inl ⟨d2, hmem, hlk, cc, u, z1, z2, as, rr⟩⟩
    · cases e
  · rename_i hlk
    obtain ⟨d, hd, e⟩ := Option.bind_eq_some_iff.mp e
    obtain ⟨u, v, e1, ru, r⟩ := g.top.globs y d hd
    have r' : RD X.K α F d v := r.mono (fun l k a z => by simp [gt] at z) (fun b o z => by cases z)
    obtain ⟨as, rr⟩ := Dp.reads I p v u (py_of a.1 r' e) ru
    exact ⟨(g.top.nodbg y (.inr (.inl (by rw [hd]; rfl)))).1, .inr ⟨hlk, u, e1, as, rr⟩⟩
  · cases e
theorem gScope_t (g : Gd τ G call X c k W) {scope : Scope} {own : List Str} (hs : gScope c scope own = true) {α : Al} {F H : Hp} {h : Hs} {s : Sl} {σ : St} {sh : Shared} (a : At τ X.K α F H h s σ) (I : Inv X pins σ H sh)
    (hb : (gFree scope c.nm 0).all (bound s) = true) : GenT X.env scope ∧ (∀ x ∈ own, scope.names.lookup x = some .local ∧ (x == ("__debug__" : Str)) = false) ∧ own.Nodup := by
  have hf := fun y (hy : (y, NameKind.free) ∈ scope.names) => gScope_free hs hy
  unfold gScope at hs
  simp only [Bool.and_eq_true] at hs
  obtain ⟨⟨⟨⟨⟨h1, h2⟩, h3⟩, h4⟩, h5⟩, h6⟩ := hs
  have key : ∀ (nm : List Str) (j : Nat) (x : Str) (i : Nat), nameAt nm x = some i → isFree scope x = true → i + j ∈ gFree scope nm j := by
    intro nm
    induction nm with
    | nil => intro j x i e; cases e
    | cons y r ih =>
      intro j x i e hx
      unfold nameAt at e
      unfold gFree
      by_cases hxy : x = y
      · rw [if_pos hxy] at e
        cases e
        rw [← hxy, if_pos hx]
        simp
      · rw [if_neg hxy] at e
        obtain ⟨i', e', rfl⟩ := Option.map_eq_some_iff.mp e
        have := ih (j + 1) x i' e' hx
        have e2 : i' + 1 + j = i' + (j + 1) := by omega
        rw [e2]
        split
        · exact List.mem_cons_of_mem _ this
        · exact this
  refine ⟨⟨by simpa using h1, by simpa using h2, fun y hy => ?_, by simpa using h4, fun y hy hk => ?_⟩, fun x hx => ?_, by simpa using h6⟩
  · have := List.all_eq_true.mp h3 _ hy
    simp only [Bool.and_eq_true] at this
    simpa using this.1
  · have hy' : (y.1, NameKind.free) ∈ scope.names := by rw [← hk]; exact hy
    obtain ⟨f1, f2, f3⟩ := hf y.1 hy'
    obtain ⟨i, hi⟩ := Option.isSome_iff_exists.mp f2
    have hm := List.all_eq_true.mp hb _ (key c.nm 0 y.1 i hi f1)
    unfold bound at hm
    simp only [Nat.add_zero] at hm
    split at hm
    · rename_i d he
      obtain ⟨v, cc, u, _, _, z1, _⟩ := cell_at g a I hi f3 he
      exact ⟨cc, z1⟩
    · cases hm
  · have := List.all_eq_true.mp h5 _ hx
    simp only [Bool.and_eq_true] at this
    refine ⟨by simpa using this.1, ?_⟩
    have h7 := this.2
    unfold bne at h7
    simpa using h7
/-! ### what is walked -/
/-- an item of the iterator, read at a later turn -/
def ReadAt (X : Cx) (pins : List (Addr × Obj)) (σ : St) (τ : List Addr) (α : Al) (F : Hp) (h : Hs) (v : Value) (d : D) : Prop :=
  ∀ (s2 : Shared) (H2 : Hp), Inv X pins σ H2 s2 → Wd τ X.K α F H2 h → ∀ p, d.py = some p → Rdv s2.heap v p
theorem readAt_rel {α : Al} {F : Hp} {h : Hs} {σ : St} {x : V} {v : Value} {d : D} (r : RD X.K α F d x) (rv : RelV x v) : ReadAt X pins σ τ α F h v d := fun s2 H2 J w p e => Dp.reads J p x v (py_of w r e) rv
theorem walks_bound {P : Program} {w : World} {A : Around} {I : Addr} {fp wr : List Addr} {n : Nat} {Pf : Nat → Value → Prop} {St : Nat → Heap → Prop} (W : Walks P w A I fp wr n Pf St) : Walks P w A I fp wr n (fun i v => i < n ∧ Pf i v) St :=
  ⟨W.sub, W.frame, fun i s Q E hi st hQ => W.item i s Q E hi st fun v h' tk hP => hQ v h' tk ⟨hi, hP⟩, W.done, W.self⟩
theorem walks_len {P : Program} {w : World} {A : Around} {I : Addr} {fp wr : List Addr} {n m : Nat} {Pf : Nat → Value → Prop} {St : Nat → Heap → Prop} (W : Walks P w A I fp wr n Pf St) (e : n = m) : Walks P w A I fp wr m (fun i v => i < m ∧ Pf i v) St := by
  subst e
  exact walks_bound W
/-- the iterator that stands ready, one item a turn -/
def OneIt (X : Cx) (pins : List (Addr × Obj)) (σ : St) (τ : List Addr) (s : Sl) (Z : Al → Hp → Hp → Hs → List D → Prop) (it : Value) (s₂ : Shared) : Prop :=
  ∃ (s1 : Shared) (H1 : Hp) (h2 : Heap) (tk2 : Nat) (Ia : Addr) (fp wr : List Addr) (Pf : Nat → Value → Prop) (St₀ : Nat → Heap → Prop) (α : Al) (F : Hp) (h1 : Hs) (xs : List D),
    it = .ref Ia ∧ s₂ = { s1 with heap := h2, toks := tk2 } ∧ (∀ P ∈ τ, GIt X pins σ P s1 H1 h2 fp wr St₀) ∧ (∀ A' : Around, A'.handled = none → Walks X.prog X.w A' Ia fp wr xs.length Pf St₀) ∧ At τ X.K α F H1 h1 s σ ∧
    (∀ i v, Pf i v → ∃ d, xs[i]? = some d ∧ ReadAt X pins σ τ α F h1 v d) ∧ Z α F H1 h1 xs
theorem _root_.Bk.Res.bind_assoc {A B C : Type} (r : Res A) (f : A → Hs → Res B) (g : B → Hs → Res C) : (r.bind f).bind g = r.bind fun a h => (f a h).bind g := by cases r <;> rfl
theorem push_keep {hp : Heap} {o : Obj} {P : Addr} {h3 : Heap} (hst : ∀ b u, b ≠ P → (hp.push o).get? b = some u → h3.get? b = some u) (hP : P < hp.objs.size) (ho : o.isFreed = false) : h3.get? hp.objs.size = some o :=
  hst _ _ (fun z => Nat.lt_irrefl _ (z ▸ hP)) (Heap.get?_push_size _ ho)
/-- the table is there -/
theorem tab_lt {H : Hp} {σ : St} {sh : Shared} {P : Addr} (I : Inv X pins σ H sh) (t : GxR.TabG H P) : P < sh.heap.objs.size ∧ ∃ ps, sh.heap.get? P = some { cls := .none, data := .fields ps } := by
  obtain ⟨ps, e, _⟩ := t
  have := I.hok P _ e
  exact ⟨Heap.lt_size this, ps, this⟩
theorem git_push {H : Hp} {σ : St} {α : Al} {F : Hp} {h : Hs} {sh : Shared} {o : Obj} {fp : List Addr} {St₀ : Nat → Heap → Prop} (I : Inv X pins σ H sh) (w : Wd τ X.K α F H h) (hfp : ∀ b ∈ fp, b ≤ sh.heap.objs.size)
    (hst : ∀ P, P < sh.heap.objs.size → (∃ ps, sh.heap.get? P = some { cls := .none, data := .fields ps }) → ∀ h3 : Heap, (∀ b u, b ≠ P → (sh.heap.push o).get? b = some u → h3.get? b = some u) → St₀ 0 h3) : ∀ P ∈ τ, GIt X pins σ P sh H (sh.heap.push o) fp [sh.heap.objs.size] St₀ := fun P hP => by
  obtain ⟨t, _, _⟩ := w.tabs P hP
  obtain ⟨h1, h2⟩ := tab_lt I t
  refine ⟨I, t, fun b u e => Heap.get?_push_of_some _ e, ?_, hst P h1 h2, fun b hb => ?_, fun b hb => ?_⟩
  · rw [Heap.size_push]; omega
  · rw [Heap.size_push]; exact Nat.lt_succ_of_le (hfp b hb)
  · have : b = sh.heap.objs.size := by simpa using hb
    rw [this]
    exact Nat.le_refl _
theorem rng_get {m : Int} {n i : Nat} (hi : i < n) : ((List.range n).map fun i => D.int (m + (i : Nat)))[i]? = some (.int (m + (i : Nat))) := by
  rw [List.getElem?_map, List.getElem?_range hi]; rfl
theorem rng_one {H : Hp} {σ : St} {α : Al} {F : Hp} {h : Hs} {s : Sl} {sh : Shared} {Z : Al → Hp → Hp → Hs → List D → Prop} {r : Addr} {m n : Int} {t u v : Tok} {E : Value → Shared → Prop} (I : Inv X pins σ H sh) (a : At τ X.K α F H h s σ) (hr : IsRange sh.heap r m n 1 t u v) (hz : -(2 ^ 61) ≤ m ∧ m < 2 ^ 61 ∧ -(2 ^ 61) ≤ n ∧ n < 2 ^ 61)
    (z : Z α F H h ((List.range (n - m).toNat).map fun i => .int (m + (i : Nat)))) : wpAny (model X.prog X.w) X.A (pyIter (.ref r)) (OneIt X pins σ τ s Z) E sh := by
  refine wpAny_pyIter_range hr (small_one (by omega) (by omega) (by omega) (by omega)) ?_
  refine ⟨sh, H, _, sh.toks, sh.heap.objs.size, [sh.heap.objs.size], [sh.heap.objs.size], _, _, α, F, h, _, rfl, rfl, git_push I a.1 (fun b hb => by
    have : b = sh.heap.objs.size := by simpa using hb
    rw [this]; exact Nat.le_refl _) fun P hP _ h3 hst => ?_, fun A' hA => by rw [List.length_map, List.length_range]; exact walks_bound (Walks.range hA _ m 1 (n - m).toNat), a, fun i v hv => ?_, z⟩
  · have e1 : m + ((0 : Nat) : Int) * 1 = m := by simp
    have e2 : (((n - m).toNat : Nat) : Int) - ((0 : Nat) : Int) = Builtin.Range.rangeSize m n 1 := by rw [rangeSize_one]; split <;> omega
    show IsRangeIter _ _ (m + ((0 : Nat) : Int) * 1) ((((n - m).toNat : Nat) : Int) - ((0 : Nat) : Int)) 1
    rw [e1, e2]
    exact push_keep hst hP rfl
  · obtain ⟨hi, t, rfl⟩ := hv
    refine ⟨_, rng_get hi, fun s2 H2 J w p e => ?_⟩
    cases e
    rw [Int.mul_one]
    exact ⟨_, .int _ _⟩
theorem lst_one {H : Hp} {σ : St} {α : Al} {F : Hp} {h : Hs} {s : Sl} {sh : Shared} {Z : Al → Hp → Hp → Hs → List D → Prop} {l : Addr} {xs : List D} {vs : List V} {E : Value → Shared → Prop} (I : Inv X pins σ H sh) (a : At τ X.K α F H h s σ) (hq : SqL X.K H l vs) (q : RDs X.K α F xs vs)
    (z : Z α F H h xs) : wpAny (model X.prog X.w) X.A (pyIter (.ref l)) (OneIt X pins σ τ s Z) E sh := by
  obtain ⟨its, rv, p, _⟩ := I.list hq
  have hl : l < sh.heap.objs.size := p.lt
  have hlen : its.length = xs.length := by rw [q.length, ← rv.length]
  refine wpAny_pyIter_list p.isList ?_
  refine ⟨sh, H, _, sh.toks, sh.heap.objs.size, [sh.heap.objs.size, l], [sh.heap.objs.size], _, _, α, F, h, xs, rfl, rfl, git_push I a.1 (fun b hb => ?_) fun P hP hPt h3 hst => ?_, fun A' hA => walks_len (Walks.list (prog := X.prog) (w := X.w) hA sh.heap.objs.size l (Nat.ne_of_lt hl) its.toArray) (List.size_toArray.trans hlen), a, fun i v hv => ?_, z⟩
  · have e' : b = sh.heap.objs.size ∨ b = l := by simpa using hb
    rcases e' with e' | e'
    · rw [e']; exact Nat.le_refl _
    · rw [e']; exact Nat.le_of_lt hl
  · refine ⟨⟨_, push_keep hst hP rfl, rfl, rfl⟩, ?_⟩
    obtain ⟨o, e1, e2⟩ := p.isList
    refine ⟨o, hst _ _ (fun z => ?_) (Heap.get?_push_of_some _ e1), e2⟩
    obtain ⟨ps, hp⟩ := hPt
    rw [z, hp] at e1
    cases e1
    exact nomatch e2.1
  · obtain ⟨hi, hv⟩ := hv
    have e : its[i]? = some v := by simpa using hv
    obtain ⟨x, e1, rd⟩ := q.get (List.getElem?_eq_getElem hi)
    obtain ⟨u, e2, rx⟩ := rv.get e1
    rw [e] at e2
    cases e2
    exact ⟨_, List.getElem?_eq_getElem hi, readAt_rel rd rx⟩
theorem tup_one {H : Hp} {σ : St} {α : Al} {F : Hp} {h : Hs} {s : Sl} {sh : Shared} {Z : Al → Hp → Hp → Hs → List D → Prop} {l : Addr} {xs : List D} {vs : List V} {E : Value → Shared → Prop} (I : Inv X pins σ H sh) (a : At τ X.K α F H h s σ) (hq : SqT X.K H l vs) (q : RDs X.K α F xs vs)
    (z : Z α F H h xs) : wpAny (model X.prog X.w) X.A (pyIter (.ref l)) (OneIt X pins σ τ s Z) E sh := by
  obtain ⟨its, rv, p, _⟩ := I.tuple hq
  have pl : sh.heap.IsTuple l its.toArray := p
  have hl : l < sh.heap.objs.size := by obtain ⟨o, ho, _⟩ := pl; exact Heap.lt_size ho
  have hlen : its.length = xs.length := by rw [q.length, ← rv.length]
  refine wpAny_pyIter_tuple pl ?_
  refine ⟨sh, H, _, sh.toks, sh.heap.objs.size, [sh.heap.objs.size, l], [sh.heap.objs.size], _, _, α, F, h, xs, rfl, rfl, git_push I a.1 (fun b hb => ?_) fun P hP hPt h3 hst => ?_, fun A' hA => walks_len (Walks.tuple (prog := X.prog) (w := X.w) hA sh.heap.objs.size l (Nat.ne_of_lt hl) its.toArray) (List.size_toArray.trans hlen), a, fun i v hv => ?_, z⟩
  · have e' : b = sh.heap.objs.size ∨ b = l := by simpa using hb
    rcases e' with e' | e'
    · rw [e']; exact Nat.le_refl _
    · rw [e']; exact Nat.le_of_lt hl
  · refine ⟨⟨_, push_keep hst hP rfl, rfl, rfl⟩, ?_⟩
    obtain ⟨o, e1, e2⟩ := pl
    refine ⟨o, hst _ _ (fun z => ?_) (Heap.get?_push_of_some _ e1), e2⟩
    obtain ⟨ps, hp⟩ := hPt
    rw [z, hp] at e1
    cases e1
    exact nomatch e2.1
  · obtain ⟨hi, hv⟩ := hv
    have e : its[i]? = some v := by simpa using hv
    obtain ⟨x, e1, rd⟩ := q.get (List.getElem?_eq_getElem hi)
    obtain ⟨u, e2, rx⟩ := rv.get e1
    rw [e] at e2
    cases e2
    exact ⟨_, List.getElem?_eq_getElem hi, readAt_rel rd rx⟩
theorem rng_fin {H : Hp} {σ : St} {α : Al} {F : Hp} {h : Hs} {s : Sl} {sh : Shared} {R : List D → Hs → Res D} {Q : V → Hp → Prop} {r : Addr} {m n : Int} {t u v : Tok} (I : Inv X pins σ H sh) (a : At τ X.K α F H h s σ) (hr : IsRange sh.heap r m n 1 t u v)
    (p : RP τ X.K X.mg (fun c d H => W c d σ H) (RD X.K) α F H ((rngL (.int m) (.int n) h).bind R) Q) : wpAny (model X.prog X.w) X.A (pyIter (.ref r)) (OneIt X pins σ τ s fun α F H1 h1 xs => RP τ X.K X.mg (fun c d H => W c d σ H) (RD X.K) α F H1 (R xs h1) Q) X.xe sh := by
  by_cases hz : -(2 ^ 61) ≤ m ∧ m < 2 ^ 61 ∧ -(2 ^ 61) ≤ n ∧ n < 2 ^ 61
  · have e : rngL (.int m) (.int n) h = .ok ((List.range (n - m).toNat).map fun i => .int (m + (i : Nat))) h := if_pos hz
    rw [e] at p
    exact rng_one I a hr hz p
  · have e : rngL (.int m) (.int n) h = .bad := if_neg hz
    rw [e] at p
    exact p.elim
/-- one name: the walk -/
theorem walk_one (g : Gd τ G call X c k W) (ih : ∀ e, PE X e (tE τ X.K X.mg W (S.e c e))) {x : Str} {px : Pos} {it : Expr} {α : Al} {F H : Hp} {h : Hs} {s : Sl} {σ : St} {sh : Shared} {R : List D → Hs → Res D} {Q : V → Hp → Prop} (a : At τ X.K α F H h s σ) (I : Inv X pins σ H sh)
    (p : RP τ X.K X.mg (fun c d H => W c d σ H) (RD X.K) α F H ((gWalk G S c (.Name x px) it s h).bind R) Q) :
    wpAny (model X.prog X.w) X.A (eval it X.env) (fun xv s₁ => wpAny (model X.prog X.w) X.A (pyIter xv) (OneIt X pins σ τ s fun α F H1 h1 xs => RP τ X.K X.mg (fun c d H => W c d σ H) (RD X.K) α F H1 (R xs h1) Q) X.xe s₁) X.xe sh := by
  have sp := walkK_spec G c (.Name x px) it
  unfold gWalk at p
  cases hk : walkK G c (.Name x px) it with
  | no => rw [hk] at p; exact p.elim
  | enm b => rw [hk] at sp; obtain ⟨_, _, _, _, _, e, _⟩ := sp; cases e
  | zip b b' => rw [hk] at sp; obtain ⟨_, _, _, _, _, e, _⟩ := sp; cases e
  | rng1 b =>
    rw [hk] at sp p
    obtain ⟨pp, pos, rfl, hb, hs⟩ := sp
    obtain ⟨h1, h2⟩ := isBlt_ok g hb
    have p : RP τ X.K X.mg (fun c d H => W c d σ H) (RD X.K) α F H (((S.e c b s h).bind (rngL (.int 0))).bind R) Q := p
    rw [Res.bind_assoc] at p
    refine wpAny_mono (prg_1 h1 h2 (ih b) (starEach_cons hs) pins sh σ H (fun m n H1 => ∃ α1 F1 h1, At τ X.K α1 F1 H1 h1 s σ ∧ m = 0 ∧ RP τ X.K X.mg (fun c d H => W c d σ H) (RD X.K) α1 F1 H1 ((rngL (.int 0) (.int n) h1).bind R) Q) I
      (RP.seq (rel := RD X.K) (f := S.e c b) a p fun α' F' H' h' e u x' a' r' p2 => ?_)) (fun xv s₁ h3 => ?_) fun _ _ e => e
    · cases e with
      | int n =>
        cases r'
        exact ⟨n, rfl, α', F', h', a', rfl, p2⟩
      | _ => exact p2.elim
    · obtain ⟨r, m, n, t, u, v, H1, rfl, hr, I1, α1, F1, h1, a1, rfl, p2⟩ := h3
      exact rng_fin I1 a1 hr p2
  | rng3 b b' b'' => rw [hk] at p; exact p.elim
  | rng2 b b' =>
    rw [hk] at sp p
    obtain ⟨pp, pos, rfl, hb, hs, hs'⟩ := sp
    obtain ⟨h1, h2⟩ := isBlt_ok g hb
    have p : RP τ X.K X.mg (fun c d H => W c d σ H) (RD X.K) α F H (((S.e c b s h).bind fun v h1 => (S.e c b' s h1).bind (rngL v)).bind R) Q := p
    rw [Res.bind_assoc] at p
    refine wpAny_mono (prg_2 h1 h2 (ih b) (ih b') (starEach_cons hs) (starEach_cons hs') (by rw [star1 hs']; rfl) pins sh σ H (fun m n H1 => ∃ α1 F1 h1, At τ X.K α1 F1 H1 h1 s σ ∧ RP τ X.K X.mg (fun c d H => W c d σ H) (RD X.K) α1 F1 H1 ((rngL (.int m) (.int n) h1).bind R) Q) I
      (RP.seq (rel := RD X.K) (f := S.e c b) a p fun α' F' H' h' e u x' a' r' p2 => ?_)) (fun xv s₁ h3 => ?_) fun _ _ e => e
    · rw [Res.bind_assoc] at p2
      refine RP.seq (rel := RD X.K) (f := S.e c b') a' p2 fun α2 F2 H2 h2 e2 u2 x2 a2 r2 p3 => ?_
      cases e with
      | int m => cases e2 with
        | int n =>
          cases r2
          cases r'
          exact ⟨m, n, rfl, rfl, α2, F2, h2, a2, p3⟩
        | _ => exact p3.elim
      | _ => exact p3.elim
    · obtain ⟨r, m, n, t, u, v, H1, rfl, hr, I1, α1, F1, h1, a1, p2⟩ := h3
      exact rng_fin I1 a1 hr p2
  | seq =>
    rw [hk] at p
    have p : RP τ X.K X.mg (fun c d H => W c d σ H) (RD X.K) α F H (((S.e c it s h).bind seqL).bind R) Q := p
    rw [Res.bind_assoc] at p
    refine thn ((ih it).run pins sh σ H (fun v H1 => ∃ α1 F1 h1 d, At τ X.K α1 F1 H1 h1 s σ ∧ RD X.K α1 F1 d v ∧ RP τ X.K X.mg (fun c d H => W c d σ H) (RD X.K) α1 F1 H1 ((seqL d h1).bind R) Q) I (RP.seq (rel := RD X.K) (f := S.e c it) a p fun α' F' H' h' e u x' a' r' p2 => ⟨α', F', h', e, a', r', p2⟩)) fun v s1 ⟨x, H1, I1, r1, α1, F1, h1, d, a1, rd, p2⟩ => ?_
    unfold seqL at p2
    cases hsq : d.seq h1 with
    | none => rw [hsq] at p2; exact p2.elim
    | some xs =>
      rw [hsq] at p2
      cases rd with
      | tup f q =>
        cases hsq
        cases r1
        exact tup_one I1 a1 (Same.seqT a1.1.sub f) q p2
      | lst f q => cases hsq; cases r1; exact lst_one I1 a1 (.of (a1.1.sub _ _ f)) q p2
      | scr f => cases hsq; cases r1; exact lst_one I1 a1 (a1.1.sub.seq f) (RDs.ints _) p2
      | loc gl =>
        cases r1
        obtain ⟨vs, e3, q⟩ := cur_live a1.1 gl (show cur h1 _ _ = some xs from hsq)
        exact lst_one I1 a1 (.of e3) q p2
      | _ => cases hsq
/-- the iterator that stands ready, two items a turn -/
def TwoIt (X : Cx) (pins : List (Addr × Obj)) (σ : St) (τ : List Addr) (s : Sl) (Z : Al → Hp → Hp → Hs → List D → Prop) (it : Value) (s₂ : Shared) : Prop :=
  ∃ (s1 : Shared) (H1 : Hp) (h2 : Heap) (tk2 : Nat) (Ia : Addr) (fp wr : List Addr) (Pt : Nat → Array Value → Prop) (St₀ : Nat → Heap → Prop) (Mid : Nat → Addr → Heap → Prop) (α : Al) (F : Hp) (h1 : Hs) (xs : List D),
    it = .ref Ia ∧ s₂ = { s1 with heap := h2, toks := tk2 } ∧ (∀ P ∈ τ, GIt X pins σ P s1 H1 h2 fp wr St₀) ∧ (∀ A' : Around, A'.handled = none → WalksU X.prog X.w A' Ia fp wr xs.length Pt St₀ Mid) ∧ At τ X.K α F H1 h1 s σ ∧
    (∀ i vals, Pt i vals → ∃ va vb da db, vals = #[va, vb] ∧ xs[i]? = some (.tup [da, db]) ∧ ReadAt X pins σ τ α F h1 va da ∧ ReadAt X pins σ τ α F h1 vb db) ∧ Z α F H1 h1 xs
/-- all are pairs -/
def arePairs (xs : List D) : Prop := ∀ (i : Nat) (d : D), xs[i]? = some d → ∃ a b, d = .tup [a, b]
theorem pair_vals {H : Hp} {σ : St} {α : Al} {F : Hp} {h : Hs} {sh : Shared} {xs : List D} {vs : List V} {its : List Value} (I : Inv X pins σ H sh) (w : Wd τ X.K α F H h) (q : RDs X.K α F xs vs) (rv : Vals vs its) (ap : arePairs xs) :
    ∃ (Ts : Nat → Addr) (vals : Nat → Array Value), ∀ j, j < its.length → its[j]? = some (.ref (Ts j)) ∧ sh.heap.IsTuple (Ts j) (vals j) ∧ Ts j < sh.heap.objs.size ∧ ∃ va vb da db, vals j = #[va, vb] ∧ xs[j]? = some (.tup [da, db]) ∧ ReadAt X pins σ τ α F h va da ∧ ReadAt X pins σ τ α F h vb db := by
  have one : ∀ j, j < its.length → ∃ (T : Addr) (vl : Array Value), its[j]? = some (.ref T) ∧ sh.heap.IsTuple T vl ∧ T < sh.heap.objs.size ∧ ∃ va vb da db, vl = #[va, vb] ∧ xs[j]? = some (.tup [da, db]) ∧ ReadAt X pins σ τ α F h va da ∧ ReadAt X pins σ τ α F h vb db := by
    intro j hj
    have hx : j < xs.length := by rw [q.length, rv.length]; exact hj
    obtain ⟨da, db, e⟩ := ap j _ (List.getElem?_eq_getElem hx)
    obtain ⟨x, e1, rd⟩ := q.get (List.getElem?_eq_getElem hx)
    obtain ⟨u, e2, rx⟩ := rv.get e1
    rw [e] at rd
    cases rd with
    | tup f q2 =>
      cases rx
      obtain ⟨its2, rv2, p2, _⟩ := I.tuple (Same.seqT w.sub f)
      cases q2 with
      | cons r1 q3 =>
        cases q3 with
        | cons r2 q4 =>
          cases q4
          cases rv2 with
          | cons w1 rv3 =>
            cases rv3 with
            | cons w2 rv4 =>
              cases rv4
              have pl : sh.heap.IsTuple _ _ := p2
              refine ⟨_, _, e2, pl, ?_, _, _, da, db, rfl, by rw [List.getElem?_eq_getElem hx, e], readAt_rel r1 w1, readAt_rel r2 w2⟩
              obtain ⟨o, ho, _⟩ := pl
              exact Heap.lt_size ho
  refine ⟨fun j => if hj : j < its.length then (one j hj).choose else 0, fun j => if hj : j < its.length then (one j hj).choose_spec.choose else #[], fun j hj => ?_⟩
  simp only [hj, dif_pos]
  exact (one j hj).choose_spec.choose_spec
theorem pair_keep {sh : Shared} {P : Addr} {o : Obj} {h3 : Heap} {T : Addr} {vl : Array Value} (hPt : ∃ ps, sh.heap.get? P = some { cls := .none, data := .fields ps }) (hst : ∀ b u, b ≠ P → (sh.heap.push o).get? b = some u → h3.get? b = some u) (pl : sh.heap.IsTuple T vl) : h3.IsTuple T vl := by
  obtain ⟨ob, e1, e2⟩ := pl
  refine ⟨ob, hst _ _ (fun z => ?_) (Heap.get?_push_of_some _ e1), e2⟩
  obtain ⟨ps, hp⟩ := hPt
  rw [z, hp] at e1
  cases e1
  exact nomatch e2.1
theorem lst_two {H : Hp} {σ : St} {α : Al} {F : Hp} {h : Hs} {s : Sl} {sh : Shared} {Z : Al → Hp → Hp → Hs → List D → Prop} {l : Addr} {xs : List D} {vs : List V} {E : Value → Shared → Prop} (I : Inv X pins σ H sh) (a : At τ X.K α F H h s σ) (hq : SqL X.K H l vs) (q : RDs X.K α F xs vs) (ap : arePairs xs)
    (z : Z α F H h xs) : wpAny (model X.prog X.w) X.A (pyIter (.ref l)) (TwoIt X pins σ τ s Z) E sh := by
  obtain ⟨its, rv, p, _⟩ := I.list hq
  have hl : l < sh.heap.objs.size := p.lt
  have hlen : its.length = xs.length := by rw [q.length, ← rv.length]
  obtain ⟨Ts, vals, hT⟩ := pair_vals I a.1 q rv ap
  have hT' : ∀ j, j < its.toArray.size → _ := fun j hj => hT j (by simpa using hj)
  refine wpAny_pyIter_list p.isList ?_
  refine ⟨sh, H, _, sh.toks, sh.heap.objs.size, sh.heap.objs.size :: l :: (List.range its.toArray.size).map Ts, [sh.heap.objs.size], _, _, _, α, F, h, xs, rfl, rfl, git_push I a.1 (fun b hb => ?_) fun P hP hPt h3 hst => ?_, fun A' hA => walksU_len (WalksU.listOfTuples (prog := X.prog) (w := X.w) hA sh.heap.objs.size l (Nat.ne_of_lt hl) its.toArray Ts vals (fun j hj => by have := (hT' j hj).1; simpa using this) fun j hj => Nat.ne_of_lt (hT' j hj).2.2.1) (List.size_toArray.trans hlen), a, fun i v hv => ?_, z⟩
  · rcases List.mem_cons.mp hb with e' | hb
    · rw [e']; exact Nat.le_refl _
    · rcases List.mem_cons.mp hb with e' | hb
      · rw [e']; exact Nat.le_of_lt hl
      · obtain ⟨j, hj, rfl⟩ := List.mem_map.mp hb
        exact Nat.le_of_lt (hT' j (List.mem_range.mp hj)).2.2.1
  · refine ⟨⟨_, push_keep hst hP rfl, rfl, rfl⟩, ?_, fun m hm => pair_keep hPt hst (hT' m hm).2.1⟩
    obtain ⟨o, e1, e2⟩ := p.isList
    refine ⟨o, hst _ _ (fun z => ?_) (Heap.get?_push_of_some _ e1), e2⟩
    obtain ⟨ps, hp⟩ := hPt
    rw [z, hp] at e1
    cases e1
    exact nomatch e2.1
  · obtain ⟨hi, rfl⟩ := hv
    obtain ⟨_, _, _, va, vb, da, db, e1, e2, r1, r2⟩ := hT i (by omega)
    exact ⟨va, vb, da, db, e1, e2, r1, r2⟩
theorem tup_two {H : Hp} {σ : St} {α : Al} {F : Hp} {h : Hs} {s : Sl} {sh : Shared} {Z : Al → Hp → Hp → Hs → List D → Prop} {l : Addr} {xs : List D} {vs : List V} {E : Value → Shared → Prop} (I : Inv X pins σ H sh) (a : At τ X.K α F H h s σ) (hq : SqT X.K H l vs) (q : RDs X.K α F xs vs) (ap : arePairs xs)
    (z : Z α F H h xs) : wpAny (model X.prog X.w) X.A (pyIter (.ref l)) (TwoIt X pins σ τ s Z) E sh := by
  obtain ⟨its, rv, p, _⟩ := I.tuple hq
  have pl : sh.heap.IsTuple l its.toArray := p
  have hl : l < sh.heap.objs.size := by obtain ⟨o, ho, _⟩ := pl; exact Heap.lt_size ho
  have hlen : its.length = xs.length := by rw [q.length, ← rv.length]
  obtain ⟨Ts, vals, hT⟩ := pair_vals I a.1 q rv ap
  have hT' : ∀ j, j < its.toArray.size → _ := fun j hj => hT j (by simpa using hj)
  refine wpAny_pyIter_tuple pl ?_
  refine ⟨sh, H, _, sh.toks, sh.heap.objs.size, sh.heap.objs.size :: l :: (List.range its.toArray.size).map Ts, [sh.heap.objs.size], _, _, _, α, F, h, xs, rfl, rfl, git_push I a.1 (fun b hb => ?_) fun P hP hPt h3 hst => ?_, fun A' hA => walksU_len (pairs_tup (prog := X.prog) (w := X.w) hA sh.heap.objs.size l (Nat.ne_of_lt hl) its.toArray Ts vals (fun j hj => by have := (hT' j hj).1; simpa using this) fun j hj => Nat.ne_of_lt (hT' j hj).2.2.1) (List.size_toArray.trans hlen), a, fun i v hv => ?_, z⟩
  · rcases List.mem_cons.mp hb with e' | hb
    · rw [e']; exact Nat.le_refl _
    · rcases List.mem_cons.mp hb with e' | hb
      · rw [e']; exact Nat.le_of_lt hl
      · obtain ⟨j, hj, rfl⟩ := List.mem_map.mp hb
        exact Nat.le_of_lt (hT' j (List.mem_range.mp hj)).2.2.1
  · exact ⟨⟨_, push_keep hst hP rfl, rfl, rfl⟩, pair_keep hPt hst pl, fun m hm => pair_keep hPt hst (hT' m hm).2.1⟩
  · obtain ⟨hi, rfl⟩ := hv
    obtain ⟨_, _, _, va, vb, da, db, e1, e2, r1, r2⟩ := hT i (by omega)
    exact ⟨va, vb, da, db, e1, e2, r1, r2⟩
theorem git_new {H : Hp} {σ : St} {α : Al} {F : Hp} {h : Hs} {sh : Shared} {h' : Heap} {fp wr : List Addr} {St₀ : Nat → Heap → Prop} (I : Inv X pins σ H sh) (w : Wd τ X.K α F H h) (hk : ∀ b u, sh.heap.get? b = some u → h'.get? b = some u) (hsz : sh.heap.objs.size ≤ h'.objs.size) (hfp : ∀ b ∈ fp, b < h'.objs.size) (hwr : ∀ b ∈ wr, sh.heap.objs.size ≤ b)
    (hst : ∀ P, P < sh.heap.objs.size → (∃ ps, sh.heap.get? P = some { cls := .none, data := .fields ps }) → ∀ h3 : Heap, (∀ b u, b ≠ P → h'.get? b = some u → h3.get? b = some u) → St₀ 0 h3) : ∀ P ∈ τ, GIt X pins σ P sh H h' fp wr St₀ := fun P hP => by
  obtain ⟨t, _, _⟩ := w.tabs P hP
  obtain ⟨h1, h2⟩ := tab_lt I t
  exact ⟨I, t, hk, hsz, hst P h1 h2, hfp, hwr⟩
theorem keep_lst {sh : Shared} {P : Addr} {h' h3 : Heap} {T : Addr} {vl : Array Value} (hPt : ∃ ps, sh.heap.get? P = some { cls := .none, data := .fields ps }) (hk : ∀ b u, sh.heap.get? b = some u → h'.get? b = some u) (hst : ∀ b u, b ≠ P → h'.get? b = some u → h3.get? b = some u) (pl : sh.heap.IsList T vl) : h3.IsList T vl := by
  obtain ⟨ob, e1, e2⟩ := pl
  refine ⟨ob, hst _ _ (fun z => ?_) (hk _ _ e1), e2⟩
  obtain ⟨ps, hp⟩ := hPt
  rw [z, hp] at e1
  cases e1
  exact nomatch e2.1
theorem keep_tup {sh : Shared} {P : Addr} {h' h3 : Heap} {T : Addr} {vl : Array Value} (hPt : ∃ ps, sh.heap.get? P = some { cls := .none, data := .fields ps }) (hk : ∀ b u, sh.heap.get? b = some u → h'.get? b = some u) (hst : ∀ b u, b ≠ P → h'.get? b = some u → h3.get? b = some u) (pl : sh.heap.IsTuple T vl) : h3.IsTuple T vl := by
  obtain ⟨ob, e1, e2⟩ := pl
  refine ⟨ob, hst _ _ (fun z => ?_) (hk _ _ e1), e2⟩
  obtain ⟨ps, hp⟩ := hPt
  rw [z, hp] at e1
  cases e1
  exact nomatch e2.1
theorem readAt_int {σ : St} {α : Al} {F : Hp} {h : Hs} {i : Int} {t : Tok} : ReadAt X pins σ τ α F h (.int i t) (.int i) := fun s2 H2 J w p e => by
  cases e
  exact ⟨_, .int _ _⟩
/-- a list's or a tuple's values -/
theorem seq_vals {H : Hp} {σ : St} {α : Al} {F : Hp} {h : Hs} {sh : Shared} {l : Addr} {xs : List D} {vs : List V} (I : Inv X pins σ H sh) (q : RDs X.K α F xs vs) {its : List Value} (rv : Vals vs its) {i : Nat} {v : Value} (e : its[i]? = some v) : ∃ d, xs[i]? = some d ∧ ReadAt X pins σ τ α F h v d := by
  have hi : i < xs.length := by
    rw [q.length, rv.length]
    exact (List.getElem?_eq_some_iff.mp e).1
  obtain ⟨x, e1, rd⟩ := q.get (List.getElem?_eq_getElem hi)
  obtain ⟨u, e2, rx⟩ := rv.get e1
  rw [e] at e2
  cases e2
  exact ⟨_, List.getElem?_eq_getElem hi, readAt_rel rd rx⟩
theorem enm_get {xs : List D} {i : Nat} {d : D} (e : xs[i]? = some d) : (xs.zipIdx.map fun p => D.tup [.int (p.2 : Nat), p.1])[i]? = some (.tup [.int (i : Nat), d]) := by
  rw [zipIdx_get, e]; rfl
theorem enmL_two {H : Hp} {σ : St} {α : Al} {F : Hp} {h : Hs} {s : Sl} {sh : Shared} {Z : Al → Hp → Hp → Hs → List D → Prop} {l : Addr} {xs : List D} {vs : List V} {E E' : Value → Shared → Prop} (I : Inv X pins σ H sh) (a : At τ X.K α F H h s σ) (hq : SqL X.K H l vs) (q : RDs X.K α F xs vs)
    (z : Z α F H h (xs.zipIdx.map fun p => .tup [.int (p.2 : Nat), p.1])) : wpAny (model X.prog X.w) X.A (PySem.call (.type "enumerate") [.ref l]) (fun v s' => wpAny (model X.prog X.w) X.A (pyIter v) (TwoIt X pins σ τ s Z) E s') E' sh := by
  obtain ⟨its, rv, p, _⟩ := I.list hq
  have hl : l < sh.heap.objs.size := p.lt
  have hlen : its.length = xs.length := by rw [q.length, ← rv.length]
  refine call_enumerate_list p.isList fun h' he hit hsz hk => wpAny_pyIter_enum he ?_
  refine ⟨sh, H, h', sh.toks, sh.heap.objs.size + 1, (sh.heap.objs.size + 1) :: [sh.heap.objs.size, l], [sh.heap.objs.size + 1, sh.heap.objs.size], _, _, _, α, F, h, _, rfl, rfl, git_new I a.1 hk (by omega) (fun b hb => ?_) (fun b hb => ?_) fun P hP hPt h3 hst => ?_, fun A' hA => walksU_len (WalksT.enumerateD (Draws.list (prog := X.prog) (w := X.w) (A := A'.in1) hA sh.heap.objs.size l (Nat.ne_of_lt hl) its.toArray) (sh.heap.objs.size + 1) (Nat.succ_ne_self _) (fun hm => ?_) (by simp)).toU (by rw [List.size_toArray, List.length_map, List.length_zipIdx]; exact hlen), a, fun i v hv => ?_, z⟩
  · have e' : b = sh.heap.objs.size + 1 ∨ b = sh.heap.objs.size ∨ b = l := by simpa using hb
    rw [hsz]
    rcases e' with e' | e' | e'
    · rw [e']; exact Nat.lt_succ_self _
    · rw [e']; exact Nat.lt_succ_of_lt (Nat.lt_succ_self _)
    · rw [e']; exact Nat.lt_succ_of_lt (Nat.lt_succ_of_lt hl)
  · have e' : b = sh.heap.objs.size + 1 ∨ b = sh.heap.objs.size := by simpa using hb
    rcases e' with e' | e'
    · rw [e']; exact Nat.le_succ _
    · rw [e']; exact Nat.le_refl _
  · refine ⟨⟨.none, hst _ _ (fun z => ?_) he⟩, hit.at fun o e => hst _ _ (fun z => Nat.lt_irrefl _ (z ▸ hP)) e, keep_lst hPt hk hst p.isList⟩
    rw [← z] at hP
    exact Nat.lt_irrefl _ (Nat.lt_of_succ_lt hP)
  · have e' : sh.heap.objs.size + 1 = sh.heap.objs.size ∨ sh.heap.objs.size + 1 = l := by simpa using hm
    rcases e' with e' | e'
    · exact absurd e' (Nat.succ_ne_self _)
    · rw [← e'] at hl
      exact Nat.lt_irrefl _ (Nat.lt_of_succ_lt hl)
  · obtain ⟨hi, t, x, hx, rfl⟩ := hv
    obtain ⟨d, hd, rr⟩ := seq_vals (τ := τ) (h := h) (l := l) I q rv (show its[i]? = some x by simpa using hx)
    exact ⟨_, _, _, _, rfl, enm_get hd, readAt_int, rr⟩
theorem enmT_two {H : Hp} {σ : St} {α : Al} {F : Hp} {h : Hs} {s : Sl} {sh : Shared} {Z : Al → Hp → Hp → Hs → List D → Prop} {l : Addr} {xs : List D} {vs : List V} {E E' : Value → Shared → Prop} (I : Inv X pins σ H sh) (a : At τ X.K α F H h s σ) (hq : SqT X.K H l vs) (q : RDs X.K α F xs vs)
    (z : Z α F H h (xs.zipIdx.map fun p => .tup [.int (p.2 : Nat), p.1])) : wpAny (model X.prog X.w) X.A (PySem.call (.type "enumerate") [.ref l]) (fun v s' => wpAny (model X.prog X.w) X.A (pyIter v) (TwoIt X pins σ τ s Z) E s') E' sh := by
  obtain ⟨its, rv, p, _⟩ := I.tuple hq
  have pl : sh.heap.IsTuple l its.toArray := p
  have hl : l < sh.heap.objs.size := by obtain ⟨o, ho, _⟩ := pl; exact Heap.lt_size ho
  have hlen : its.length = xs.length := by rw [q.length, ← rv.length]
  refine call_enumerate_tuple pl fun h' he hit hsz hk => wpAny_pyIter_enum he ?_
  refine ⟨sh, H, h', sh.toks, sh.heap.objs.size + 1, (sh.heap.objs.size + 1) :: [sh.heap.objs.size, l], [sh.heap.objs.size + 1, sh.heap.objs.size], _, _, _, α, F, h, _, rfl, rfl, git_new I a.1 hk (by omega) (fun b hb => ?_) (fun b hb => ?_) fun P hP hPt h3 hst => ?_, fun A' hA => walksU_len (WalksT.enumerateD (Draws.tuple (prog := X.prog) (w := X.w) (A := A'.in1) hA sh.heap.objs.size l (Nat.ne_of_lt hl) its.toArray) (sh.heap.objs.size + 1) (Nat.succ_ne_self _) (fun hm => ?_) (by simp)).toU (by rw [List.size_toArray, List.length_map, List.length_zipIdx]; exact hlen), a, fun i v hv => ?_, z⟩
  · have e' : b = sh.heap.objs.size + 1 ∨ b = sh.heap.objs.size ∨ b = l := by simpa using hb
    rw [hsz]
    rcases e' with e' | e' | e'
    · rw [e']; exact Nat.lt_succ_self _
    · rw [e']; exact Nat.lt_succ_of_lt (Nat.lt_succ_self _)
    · rw [e']; exact Nat.lt_succ_of_lt (Nat.lt_succ_of_lt hl)
  · have e' : b = sh.heap.objs.size + 1 ∨ b = sh.heap.objs.size := by simpa using hb
    rcases e' with e' | e'
    · rw [e']; exact Nat.le_succ _
    · rw [e']; exact Nat.le_refl _
  · refine ⟨⟨.none, hst _ _ (fun z => ?_) he⟩, hit.at fun o e => hst _ _ (fun z => Nat.lt_irrefl _ (z ▸ hP)) e, keep_tup hPt hk hst pl⟩
    rw [← z] at hP
    exact Nat.lt_irrefl _ (Nat.lt_of_succ_lt hP)
  · have e' : sh.heap.objs.size + 1 = sh.heap.objs.size ∨ sh.heap.objs.size + 1 = l := by simpa using hm
    rcases e' with e' | e'
    · exact absurd e' (Nat.succ_ne_self _)
    · rw [← e'] at hl
      exact Nat.lt_irrefl _ (Nat.lt_of_succ_lt hl)
  · obtain ⟨hi, t, x, hx, rfl⟩ := hv
    obtain ⟨d, hd, rr⟩ := seq_vals (τ := τ) (h := h) (l := l) I q rv (show its[i]? = some x by simpa using hx)
    exact ⟨_, _, _, _, rfl, enm_get hd, readAt_int, rr⟩
theorem zipL_at {xs ys : List D} {i : Nat} {d e : D} (h1 : xs[i]? = some d) (h2 : ys[i]? = some e) : (zipL xs ys)[i]? = some (.tup [d, e]) := by
  unfold zipL
  have : (xs.zip ys)[i]? = some (d, e) := by rw [List.getElem?_zip_eq_some]; exact ⟨h1, h2⟩
  rw [List.getElem?_map, this]; rfl
theorem zipL_two {H : Hp} {σ : St} {α : Al} {F : Hp} {h : Hs} {s : Sl} {sh : Shared} {Z : Al → Hp → Hp → Hs → List D → Prop} {l l2 : Addr} {xs ys : List D} {vs us : List V} {E E' : Value → Shared → Prop} (I : Inv X pins σ H sh) (a : At τ X.K α F H h s σ) (hq : SqL X.K H l vs) (q : RDs X.K α F xs vs) (hq2 : SqL X.K H l2 us) (q2 : RDs X.K α F ys us)
    (z : Z α F H h (zipL xs ys)) : wpAny (model X.prog X.w) X.A (PySem.call (.type "zip") [.ref l, .ref l2]) (fun v s' => wpAny (model X.prog X.w) X.A (pyIter v) (TwoIt X pins σ τ s Z) E s') E' sh := by
  obtain ⟨its, rv, p, _⟩ := I.list hq
  obtain ⟨its2, rv2, p2, _⟩ := I.list hq2
  have pl : sh.heap.IsList l its.toArray := p.isList
  have pl2 : sh.heap.IsList l2 its2.toArray := p2.isList
  have hl : l < sh.heap.objs.size := by obtain ⟨o, ho, _⟩ := pl; exact Heap.lt_size ho
  have hl2 : l2 < sh.heap.objs.size := by obtain ⟨o, ho, _⟩ := pl2; exact Heap.lt_size ho
  have hlen : its.length = xs.length := by rw [q.length, ← rv.length]
  have hlen2 : its2.length = ys.length := by rw [q2.length, ← rv2.length]
  have D := PySem.W.ktu_apart sh.heap.objs.size l l2 hl hl2
  have nl : ∀ m, l ≠ sh.heap.objs.size + m ∧ l2 ≠ sh.heap.objs.size + m := fun m => ⟨fun z => Nat.lt_irrefl _ (Nat.lt_of_lt_of_le (z ▸ hl) (Nat.le_add_right _ _)), fun z => Nat.lt_irrefl _ (Nat.lt_of_lt_of_le (z ▸ hl2) (Nat.le_add_right _ _))⟩
  refine call_zip_2 pl pl2 fun h' hz hTI hTO h1 h2 hsz hk => wpAny_pyIter_zip hz ?_
  have ge : ∀ b, b ∈ [sh.heap.objs.size + 4, sh.heap.objs.size + 2, sh.heap.objs.size + 3, sh.heap.objs.size, sh.heap.objs.size + 1] → sh.heap.objs.size ≤ b ∧ b < h'.objs.size := fun b hb => by
    have e' : b = sh.heap.objs.size + 4 ∨ b = sh.heap.objs.size + 2 ∨ b = sh.heap.objs.size + 3 ∨ b = sh.heap.objs.size ∨ b = sh.heap.objs.size + 1 := by simpa using hb
    have k : ∃ m, m < 5 ∧ b = sh.heap.objs.size + m := by
      rcases e' with e' | e' | e' | e' | e'
      · exact ⟨4, by omega, e'⟩
      · exact ⟨2, by omega, e'⟩
      · exact ⟨3, by omega, e'⟩
      · exact ⟨0, by omega, e'⟩
      · exact ⟨1, by omega, e'⟩
    obtain ⟨m, hm, rfl⟩ := k
    exact ⟨Nat.le_add_right _ _, by rw [hsz]; exact Nat.add_lt_add_left hm _⟩
  refine ⟨sh, H, h', sh.toks, sh.heap.objs.size + 4, (sh.heap.objs.size + 4) :: (sh.heap.objs.size + 2) :: (sh.heap.objs.size + 3) :: ([sh.heap.objs.size, l] ++ [sh.heap.objs.size + 1, l2]), [sh.heap.objs.size + 4, sh.heap.objs.size + 3, sh.heap.objs.size, sh.heap.objs.size + 1], _, _, _, α, F, h, _, rfl, rfl, git_new I a.1 hk (by omega) (fun b hb => ?_) (fun b hb => ?_) fun P hP hPt h3 hst => ?_, fun A' hA => walksU_len (WalksT.zipD2 (z := sh.heap.objs.size + 4) (TI := sh.heap.objs.size + 2) (TO := sh.heap.objs.size + 3) (i1 := sh.heap.objs.size) (i2 := sh.heap.objs.size + 1) ⟨D.TIz, D.TOz, D.TITO, D.TIi1, by simp, ?s1, ?s2, D.TIi2, by simp, ?s3, ?s4, ?s5, ?s7⟩ (Draws.list (prog := X.prog) (w := X.w) (A := A'.in1) hA sh.heap.objs.size l (Nat.ne_of_lt hl) its.toArray) (Draws.list (prog := X.prog) (w := X.w) (A := A'.in1) hA (sh.heap.objs.size + 1) l2 (nl 1).2 its2.toArray)).toU ?s6, a, fun i v hv => ?_, z⟩
  case s1 => simp [D.i1z.symm, Ne.symm (nl 4).1]
  case s2 => simp [D.TOi1, Ne.symm (nl 3).1]
  case s3 => simp [D.i2z.symm, Ne.symm (nl 4).2]
  case s4 => simp [D.TOi2, Ne.symm (nl 3).2]
  case s5 =>
    have := Ne.symm (nl 0).2
    simp [D.i12]
    exact this
  case s7 => simp [D.i12.symm, Ne.symm (nl 1).1]
  case s6 => rw [List.size_toArray, List.size_toArray, hlen, hlen2]; unfold zipL; rw [List.length_map, List.length_zip]
  · have e' : b = sh.heap.objs.size + 4 ∨ b = sh.heap.objs.size + 2 ∨ b = sh.heap.objs.size + 3 ∨ b = sh.heap.objs.size ∨ b = l ∨ b = sh.heap.objs.size + 1 ∨ b = l2 := by simpa using hb
    rcases e' with e' | e' | e' | e' | e' | e' | e'
    · exact (ge b (by simp [e'])).2
    · exact (ge b (by simp [e'])).2
    · exact (ge b (by simp [e'])).2
    · exact (ge b (by simp [e'])).2
    · rw [e', hsz]; exact Nat.lt_of_lt_of_le hl (Nat.le_add_right _ _)
    · exact (ge b (by simp [e'])).2
    · rw [e', hsz]; exact Nat.lt_of_lt_of_le hl2 (Nat.le_add_right _ _)
  · have e' : b = sh.heap.objs.size + 4 ∨ b = sh.heap.objs.size + 3 ∨ b = sh.heap.objs.size ∨ b = sh.heap.objs.size + 1 := by simpa using hb
    refine (ge b ?_).1
    rcases e' with e' | e' | e' | e' <;> simp [e']
  · have np : ∀ b, sh.heap.objs.size ≤ b → b ≠ P := fun b hb z => Nat.lt_irrefl _ (Nat.lt_of_lt_of_le (z ▸ hP) hb)
    refine ⟨hst _ _ (np _ (Nat.le_add_right _ _)) hz, hst _ _ (np _ (Nat.le_add_right _ _)) hTI, ⟨_, _, hst _ _ (np _ (Nat.le_add_right _ _)) hTO⟩, ⟨h1.at fun o e => hst _ _ (np _ (Nat.le_refl _)) e, keep_lst hPt hk hst pl⟩, ⟨h2.at fun o e => hst _ _ (np _ (Nat.le_add_right _ _)) e, keep_lst hPt hk hst pl2⟩⟩
  · obtain ⟨hi, x1, x2, hx1, hx2, rfl⟩ := hv
    obtain ⟨d, hd, rr⟩ := seq_vals (τ := τ) (h := h) (l := l) I q rv (show its[i]? = some x1 by simpa using hx1)
    obtain ⟨e, he, rr2⟩ := seq_vals (τ := τ) (h := h) (l := l2) I q2 rv2 (show its2[i]? = some x2 by simpa using hx2)
    exact ⟨_, _, _, _, rfl, zipL_at hd he, rr, rr2⟩
theorem zipT_two {H : Hp} {σ : St} {α : Al} {F : Hp} {h : Hs} {s : Sl} {sh : Shared} {Z : Al → Hp → Hp → Hs → List D → Prop} {l l2 : Addr} {xs ys : List D} {vs us : List V} {E E' : Value → Shared → Prop} (I : Inv X pins σ H sh) (a : At τ X.K α F H h s σ) (hq : SqT X.K H l vs) (q : RDs X.K α F xs vs) (hq2 : SqT X.K H l2 us) (q2 : RDs X.K α F ys us)
    (z : Z α F H h (zipL xs ys)) : wpAny (model X.prog X.w) X.A (PySem.call (.type "zip") [.ref l, .ref l2]) (fun v s' => wpAny (model X.prog X.w) X.A (pyIter v) (TwoIt X pins σ τ s Z) E s') E' sh := by
  obtain ⟨its, rv, p, _⟩ := I.tuple hq
  obtain ⟨its2, rv2, p2, _⟩ := I.tuple hq2
  have pl : sh.heap.IsTuple l its.toArray := p
  have pl2 : sh.heap.IsTuple l2 its2.toArray := p2
  have hl : l < sh.heap.objs.size := by obtain ⟨o, ho, _⟩ := pl; exact Heap.lt_size ho
  have hl2 : l2 < sh.heap.objs.size := by obtain ⟨o, ho, _⟩ := pl2; exact Heap.lt_size ho
  have hlen : its.length = xs.length := by rw [q.length, ← rv.length]
  have hlen2 : its2.length = ys.length := by rw [q2.length, ← rv2.length]
  have D := PySem.W.ktu_apart sh.heap.objs.size l l2 hl hl2
  have nl : ∀ m, l ≠ sh.heap.objs.size + m ∧ l2 ≠ sh.heap.objs.size + m := fun m => ⟨fun z => Nat.lt_irrefl _ (Nat.lt_of_lt_of_le (z ▸ hl) (Nat.le_add_right _ _)), fun z => Nat.lt_irrefl _ (Nat.lt_of_lt_of_le (z ▸ hl2) (Nat.le_add_right _ _))⟩
  refine RZ.call_zipT pl pl2 fun h' hz hTI hTO h1 h2 hsz hk => wpAny_pyIter_zip hz ?_
  have ge : ∀ b, b ∈ [sh.heap.objs.size + 4, sh.heap.objs.size + 2, sh.heap.objs.size + 3, sh.heap.objs.size, sh.heap.objs.size + 1] → sh.heap.objs.size ≤ b ∧ b < h'.objs.size := fun b hb => by
    have e' : b = sh.heap.objs.size + 4 ∨ b = sh.heap.objs.size + 2 ∨ b = sh.heap.objs.size + 3 ∨ b = sh.heap.objs.size ∨ b = sh.heap.objs.size + 1 := by simpa using hb
    have k : ∃ m, m < 5 ∧ b = sh.heap.objs.size + m := by
      rcases e' with e' | e' | e' | e' | e'
      · exact ⟨4, by omega, e'⟩
      · exact ⟨2, by omega, e'⟩
      · exact ⟨3, by omega, e'⟩
      · exact ⟨0, by omega, e'⟩
      · exact ⟨1, by omega, e'⟩
    obtain ⟨m, hm, rfl⟩ := k
    exact ⟨Nat.le_add_right _ _, by rw [hsz]; exact Nat.add_lt_add_left hm _⟩
  refine ⟨sh, H, h', sh.toks, sh.heap.objs.size + 4, (sh.heap.objs.size + 4) :: (sh.heap.objs.size + 2) :: (sh.heap.objs.size + 3) :: ([sh.heap.objs.size, l] ++ [sh.heap.objs.size + 1, l2]), [sh.heap.objs.size + 4, sh.heap.objs.size + 3, sh.heap.objs.size, sh.heap.objs.size + 1], _, _, _, α, F, h, _, rfl, rfl, git_new I a.1 hk (by omega) (fun b hb => ?_) (fun b hb => ?_) fun P hP hPt h3 hst => ?_, fun A' hA => walksU_len (WalksT.zipD2 (z := sh.heap.objs.size + 4) (TI := sh.heap.objs.size + 2) (TO := sh.heap.objs.size + 3) (i1 := sh.heap.objs.size) (i2 := sh.heap.objs.size + 1) ⟨D.TIz, D.TOz, D.TITO, D.TIi1, by simp, ?s1, ?s2, D.TIi2, by simp, ?s3, ?s4, ?s5, ?s7⟩ (Draws.tuple (prog := X.prog) (w := X.w) (A := A'.in1) hA sh.heap.objs.size l (Nat.ne_of_lt hl) its.toArray) (Draws.tuple (prog := X.prog) (w := X.w) (A := A'.in1) hA (sh.heap.objs.size + 1) l2 (nl 1).2 its2.toArray)).toU ?s6, a, fun i v hv => ?_, z⟩
  case s1 => simp [D.i1z.symm, Ne.symm (nl 4).1]
  case s2 => simp [D.TOi1, Ne.symm (nl 3).1]
  case s3 => simp [D.i2z.symm, Ne.symm (nl 4).2]
  case s4 => simp [D.TOi2, Ne.symm (nl 3).2]
  case s5 =>
    have := Ne.symm (nl 0).2
    simp [D.i12]
    exact this
  case s7 => simp [D.i12.symm, Ne.symm (nl 1).1]
  case s6 => rw [List.size_toArray, List.size_toArray, hlen, hlen2]; unfold zipL; rw [List.length_map, List.length_zip]
  · have e' : b = sh.heap.objs.size + 4 ∨ b = sh.heap.objs.size + 2 ∨ b = sh.heap.objs.size + 3 ∨ b = sh.heap.objs.size ∨ b = l ∨ b = sh.heap.objs.size + 1 ∨ b = l2 := by simpa using hb
    rcases e' with e' | e' | e' | e' | e' | e' | e'
    · exact (ge b (by simp [e'])).2
    · exact (ge b (by simp [e'])).2
    · exact (ge b (by simp [e'])).2
    · exact (ge b (by simp [e'])).2
    · rw [e', hsz]; exact Nat.lt_of_lt_of_le hl (Nat.le_add_right _ _)
    · exact (ge b (by simp [e'])).2
    · rw [e', hsz]; exact Nat.lt_of_lt_of_le hl2 (Nat.le_add_right _ _)
  · have e' : b = sh.heap.objs.size + 4 ∨ b = sh.heap.objs.size + 3 ∨ b = sh.heap.objs.size ∨ b = sh.heap.objs.size + 1 := by simpa using hb
    refine (ge b ?_).1
    rcases e' with e' | e' | e' | e' <;> simp [e']
  · have np : ∀ b, sh.heap.objs.size ≤ b → b ≠ P := fun b hb z => Nat.lt_irrefl _ (Nat.lt_of_lt_of_le (z ▸ hP) hb)
    refine ⟨hst _ _ (np _ (Nat.le_add_right _ _)) hz, hst _ _ (np _ (Nat.le_add_right _ _)) hTI, ⟨_, _, hst _ _ (np _ (Nat.le_add_right _ _)) hTO⟩, ⟨h1.at fun o e => hst _ _ (np _ (Nat.le_refl _)) e, keep_tup hPt hk hst pl⟩, ⟨h2.at fun o e => hst _ _ (np _ (Nat.le_add_right _ _)) e, keep_tup hPt hk hst pl2⟩⟩
  · obtain ⟨hi, x1, x2, hx1, hx2, rfl⟩ := hv
    obtain ⟨d, hd, rr⟩ := seq_vals (τ := τ) (h := h) (l := l) I q rv (show its[i]? = some x1 by simpa using hx1)
    obtain ⟨e, he, rr2⟩ := seq_vals (τ := τ) (h := h) (l := l2) I q2 rv2 (show its2[i]? = some x2 by simpa using hx2)
    exact ⟨_, _, _, _, rfl, zipL_at hd he, rr, rr2⟩
theorem pres_pairs {xa xb : Str} : ∀ {xs : List D} {pss : List (List PyData)}, gPres [xa, xb] xs = some pss → arePairs xs := by
  intro xs pss e i d hd
  obtain ⟨_, h⟩ := gPres_get e
  obtain ⟨ps, _, hp⟩ := h i d hd
  cases d with
  | tup zs =>
    match zs, hp with
    | [a, b], _ => exact ⟨a, b, rfl⟩
  | _ => cases hp
theorem pys_len : ∀ {ds : List D} {ps : List PyData}, D.pys ds = some ps → ps.length = ds.length
  | [], ps, h => by cases h; rfl
  | d :: r, ps, h => by
    obtain ⟨a, _, h⟩ := Option.bind_eq_some_iff.mp (show (d.py).bind (fun a => (D.pys r).map fun as => a :: as) = some ps from h)
    obtain ⟨as, h2, rfl⟩ := Option.map_eq_some_iff.mp h
    rw [List.length_cons, List.length_cons, pys_len h2]
theorem pres_nest {x y z : Str} {r : List Str} : ∀ {xs : List D} {pss : List (List PyData)}, gPres (x :: y :: z :: r) xs = some pss → arePairs xs := by
  intro xs pss e i d hd
  obtain ⟨_, h⟩ := gPres_get e
  obtain ⟨ps, _, hp⟩ := h i d hd
  cases d with
  | tup zs =>
    match zs, hp with
    | [a, b], _ => exact ⟨a, b, rfl⟩
    | _ :: _ :: _ :: _, hp => exact absurd hp (by simp [gPre])
  | _ => cases hp
theorem nmsOf_eq : ∀ {es : List Expr} {ns : List Str}, nmsOf es = some ns → ∃ xs : List (Str × Pos), es = xs.map nmE ∧ xs.map (·.1) = ns
  | [], ns, e => by cases e; exact ⟨[], rfl, rfl⟩
  | e :: r, ns, h => by
    unfold nmsOf at h
    split at h
    · rename_i h'; cases h'
    · rename_i x p r' h'
      injection h' with h1 h2
      subst h1 h2
      obtain ⟨ns', h3, rfl⟩ := Option.map_eq_some_iff.mp h
      obtain ⟨xs, rfl, rfl⟩ := nmsOf_eq h3
      exact ⟨(x, p) :: xs, rfl, rfl⟩
    · cases h
theorem reads_rev {h : Heap} {vs : List Value} {qs : List PyData} {as : List Addr} (r : ReadsAll h vs qs as) {va : Value} {pa : PyData} (ra : Rdv h va pa) {k : Nat} {p : PyData} (e : (qs.reverse ++ [pa])[k]? = some p) : ∃ v, (vs.reverse ++ [va])[k]? = some v ∧ Rdv h v p := by
  have hl := readsAll_len r
  by_cases c : k < qs.length
  · rw [List.getElem?_append_left (by simpa using c), List.getElem?_reverse c] at e
    obtain ⟨v, h1, h2⟩ := readsAll_get r e
    refine ⟨v, ?_, h2⟩
    rw [List.getElem?_append_left (by simpa using by omega), List.getElem?_reverse (by omega), hl]
    exact h1
  · rw [List.getElem?_append_right (by simpa using by omega), List.length_reverse] at e
    have hk : k - qs.length = 0 := by
      have := (List.getElem?_eq_some_iff.mp e).1
      simpa using this
    rw [hk] at e
    cases e
    refine ⟨va, ?_, ra⟩
    rw [List.getElem?_append_right (by simpa using by omega), List.length_reverse, hl, hk]
    rfl
/-- two names: the walk -/
theorem walk_two (g : Gd τ G call X c k W) (ih : ∀ e, PE X e (tE τ X.K X.mg W (S.e c e))) {ts : List Expr} {pt : Pos} {kt : Nat} {it : Expr} {α : Al} {F H : Hp} {h : Hs} {s : Sl} {σ : St} {sh : Shared} {R : List D → Hs → Res D} {Q : V → Hp → Prop} (a : At τ X.K α F H h s σ) (I : Inv X pins σ H sh)
    (p : RP τ X.K X.mg (fun c d H => W c d σ H) (RD X.K) α F H ((gWalk G S c (.Tuple ts kt pt) it s h).bind R) Q) (hR : ∀ xs h, R xs h ≠ .bad → arePairs xs) :
    wpAny (model X.prog X.w) X.A (eval it X.env) (fun xv s₁ => wpAny (model X.prog X.w) X.A (pyIter xv) (TwoIt X pins σ τ s fun α F H1 h1 xs => RP τ X.K X.mg (fun c d H => W c d σ H) (RD X.K) α F H1 (R xs h1) Q) X.xe s₁) X.xe sh := by
  have sp := walkK_spec G c (.Tuple ts kt pt) it
  have nb : ∀ {α F H xs h}, RP τ X.K X.mg (fun c d H => W c d σ H) (RD X.K) α F H (R xs h) Q → arePairs xs := fun {α F H xs h} q => hR xs h fun z => by rw [z] at q; exact q
  unfold gWalk at p
  cases hk : walkK G c (.Tuple ts kt pt) it with
  | no => rw [hk] at p; exact p.elim
  | rng1 b => rw [hk] at p; exact p.elim
  | rng2 b b' => rw [hk] at p; exact p.elim
  | rng3 b b' b'' => rw [hk] at p; exact p.elim
  | seq =>
    rw [hk] at p
    have p : RP τ X.K X.mg (fun c d H => W c d σ H) (RD X.K) α F H (((S.e c it s h).bind seqL).bind R) Q := p
    rw [Res.bind_assoc] at p
    refine thn ((ih it).run pins sh σ H (fun v H1 => ∃ α1 F1 h1 d, At τ X.K α1 F1 H1 h1 s σ ∧ RD X.K α1 F1 d v ∧ RP τ X.K X.mg (fun c d H => W c d σ H) (RD X.K) α1 F1 H1 ((seqL d h1).bind R) Q) I (RP.seq (rel := RD X.K) (f := S.e c it) a p fun α' F' H' h' e u x' a' r' p2 => ⟨α', F', h', e, a', r', p2⟩)) fun v s1 ⟨x, H1, I1, r1, α1, F1, h1, d, a1, rd, p2⟩ => ?_
    unfold seqL at p2
    cases hsq : d.seq h1 with
    | none => rw [hsq] at p2; exact p2.elim
    | some xs =>
      rw [hsq] at p2
      have p2 : RP τ X.K X.mg (fun c d H => W c d σ H) (RD X.K) α1 F1 H1 (R xs h1) Q := p2
      cases rd with
      | tup f q =>
        cases hsq
        cases r1
        exact tup_two I1 a1 (Same.seqT a1.1.sub f) q (nb p2) p2
      | lst f q => cases hsq; cases r1; exact lst_two I1 a1 (.of (a1.1.sub _ _ f)) q (nb p2) p2
      | scr f => cases hsq; cases r1; exact lst_two I1 a1 (a1.1.sub.seq f) (RDs.ints _) (nb p2) p2
      | loc gl =>
        cases r1
        obtain ⟨vs, e3, q⟩ := cur_live a1.1 gl (show cur h1 _ _ = some xs from hsq)
        exact lst_two I1 a1 (.of e3) q (nb p2) p2
      | _ => cases hsq
  | enm b =>
    rw [hk] at sp p
    obtain ⟨pp, pos, ts', j, tp, _, rfl, hb, hs⟩ := sp
    obtain ⟨h1, h2⟩ := isBlt_ok g hb
    have p : RP τ X.K X.mg (fun c d H => W c d σ H) (RD X.K) α F H (((S.e c b s h).bind fun v h1 => (seqL v h1).bind fun xs h2 => .ok (xs.zipIdx.map fun p => .tup [.int (p.2 : Nat), p.1]) h2).bind R) Q := p
    rw [Res.bind_assoc] at p
    have he : starEach [b] X.env = (false, eval b X.env) :: starEach [] X.env := starEach_cons hs
    refine Call_ (ld_blt I h1 h2 boot_enumerate (PyProof.Rows.callWith_type1 (one_arg (ih b) I (RP.seq (rel := RD X.K) (f := S.e c b) (Z := fun v H1 => ∃ α1 F1 h1 d, At τ X.K α1 F1 H1 h1 s σ ∧ RD X.K α1 F1 d v ∧ RP τ X.K X.mg (fun c d H => W c d σ H) (RD X.K) α1 F1 H1 (((seqL d h1).bind fun xs h2 => .ok (xs.zipIdx.map fun p => .tup [.int (p.2 : Nat), p.1]) h2).bind R) Q) a p fun α' F' H' h' e u x' a' r' p2 => ⟨α', F', h', e, a', r', p2⟩) (fun v s1 x H1 I1 r1 q => ?_) he) he))
    obtain ⟨α1, F1, h1, d, a1, rd, p2⟩ := q
    unfold seqL at p2
    cases hsq : d.seq h1 with
    | none => rw [hsq] at p2; exact p2.elim
    | some xs =>
      rw [hsq] at p2
      cases rd with
      | tup f q =>
        cases hsq
        cases r1
        exact enmT_two I1 a1 (Same.seqT a1.1.sub f) q p2
      | lst f q => cases hsq; cases r1; exact enmL_two I1 a1 (.of (a1.1.sub _ _ f)) q p2
      | scr f => cases hsq; cases r1; exact enmL_two I1 a1 (a1.1.sub.seq f) (RDs.ints _) p2
      | loc gl =>
        cases r1
        obtain ⟨vs, e3, q⟩ := cur_live a1.1 gl (show cur h1 _ _ = some xs from hsq)
        exact enmL_two I1 a1 (.of e3) q p2
      | _ => cases hsq
  | zip b b' =>
    rw [hk] at sp p
    obtain ⟨pp, pos, ts', j, tp, _, rfl, hb, hs, hs'⟩ := sp
    obtain ⟨h1, h2⟩ := isBlt_ok g hb
    have p : RP τ X.K X.mg (fun c d H => W c d σ H) (RD X.K) α F H (((S.e c b s h).bind fun v h1 => (S.e c b' s h1).bind (zipD v)).bind R) Q := p
    rw [Res.bind_assoc] at p
    have he : starEach [b, b'] X.env = (false, eval b X.env) :: starEach [b'] X.env := starEach_cons hs
    have he' : starEach [b'] X.env = (false, eval b' X.env) :: starEach [] X.env := starEach_cons hs'
    refine Call_ (ld_blt I h1 h2 PyProof.Rows.boot_zip (PyProof.Rows.callWith_type1 (args_cons (thn ((ih b).run pins sh σ H (fun v H1 => ∃ α1 F1 h1 d, At τ X.K α1 F1 H1 h1 s σ ∧ RD X.K α1 F1 d v ∧ RP τ X.K X.mg (fun c d H => W c d σ H) (RD X.K) α1 F1 H1 (((S.e c b' s h1).bind (zipD d)).bind R) Q) I (RP.seq (rel := RD X.K) (f := S.e c b) a p fun α' F' H' h' e u x' a' r' p2 => ⟨α', F', h', e, a', r', p2⟩)) fun v s1 ⟨x, H1, I1, r1, α1, F1, h1, d, a1, rd, p2⟩ => ?_) he) he (by rw [star1 hs']; rfl)))
    rw [Res.bind_assoc] at p2
    refine one_arg (ih b') I1 (RP.seq (rel := RD X.K) (f := S.e c b') (Z := fun v H2 => ∃ α2 F2 h2 d2, At τ X.K α2 F2 H2 h2 s σ ∧ RD X.K α2 F2 d x ∧ RD X.K α2 F2 d2 v ∧ RP τ X.K X.mg (fun c d H => W c d σ H) (RD X.K) α2 F2 H2 ((zipD d d2 h2).bind R) Q) a1 p2 fun α' F' H' h' e u x' a' r' p3 => ⟨α', F', h', e, a', x'.rd rd, r', p3⟩) (fun v2 s2 y H2 I2 r2 q => ?_) he'
    obtain ⟨α2, F2, hh2, d2, a2, rd1, rd2, p3⟩ := q
    have lists : ∀ {xs ys}, d.items hh2 = some xs → d2.items hh2 = some ys → RP τ X.K X.mg (fun c d H => W c d σ H) (RD X.K) α2 F2 H2 (R (zipL xs ys) hh2) Q → wpAny (model X.prog X.w) X.A (PySem.call (.type "zip") [v, v2]) (fun v s' => wpAny (model X.prog X.w) X.A (pyIter v) (TwoIt X pins σ τ s fun α F H1 h1 xs => RP τ X.K X.mg (fun c d H => W c d σ H) (RD X.K) α F H1 (R xs h1) Q) X.xe s') X.xe s2 := by
      intro xs ys e1 e2 z
      have rf : ∀ {d : D} {v : V} {xs : List D}, RD X.K α2 F2 d v → d.items hh2 = some xs → ∃ a, v = .ref a := fun r e => by
        cases r <;> first | exact ⟨_, rfl⟩ | cases e
      obtain ⟨l1, rfl⟩ := rf rd1 e1
      obtain ⟨l2, rfl⟩ := rf rd2 e2
      obtain ⟨vs, hs1, q1⟩ := items_live a2.1 rd1 e1
      obtain ⟨us, hs2, q2⟩ := items_live a2.1 rd2 e2
      cases r1
      cases r2
      exact zipL_two I2 a2 hs1 q1 hs2 q2 z
    unfold zipD at p3
    split at p3
    · cases rd1 with
      | tup f q => cases rd2 with
        | tup f' q' =>
          cases r1
          cases r2
          exact zipT_two I2 a2 (Same.seqT a2.1.sub f) q (Same.seqT a2.1.sub f') q' p3
    · split at p3
      · rename_i e1 e2
        exact lists e1 e2 p3
      · exact p3.elim
/-! ### the turns -/
def gF (G : Cfg) (c : Ctx) (g : GenX) (own : List Str) (s : Sl) (h1 : Hs) : List PyData → Option (Option PyData) := fun ps => gTurn (isGl g.scope "len" && G.blts.contains "len") (gEnv (gCap G c g.scope s h1) own ps) g.ifs g.elt
theorem gTurn_spec {ln : Bool} {env : Str → Option PyData} {ifs : List Expr} {elt : Expr} {o : Option PyData} (e : gTurn ln env ifs elt = some o) : gTest ln env 12 ifs = some o.isSome ∧ ∀ q, o = some q → isRes q = true ∧ gD ln env 12 elt = some q := by
  unfold gTurn at e
  obtain ⟨b, e1, e⟩ := Option.bind_eq_some_iff.mp e
  cases b with
  | false =>
    cases e
    exact ⟨e1, fun q z => by cases z⟩
  | true =>
    simp only [if_true] at e
    obtain ⟨q, e2, e⟩ := Option.bind_eq_some_iff.mp e
    split at e
    · rename_i hq
      cases e
      exact ⟨e1, fun q' z => by cases z; exact ⟨hq, e2⟩⟩
    · cases e
/-- what all turns' answers are -/
theorem turns_of {f : List PyData → Option (Option PyData)} {pss : List (List PyData)} {qs : List PyData} (e : gAll f pss = some qs) : ∃ (pz : Nat → Bool) (qf : Nat → Option PyData), ResIs pz pss.length qf qs ∧ ∀ (i : Nat) ps, pss[i]? = some ps → ∃ o, f ps = some o ∧ pz i = o.isSome ∧ qf i = o := by
  refine ⟨fun i => ((pss[i]?).bind f).join.isSome, fun i => ((pss[i]?).bind f).join, ?_, fun i ps hi => ?_⟩
  · obtain ⟨h1, h2, _⟩ := gAll_res pss (pz := fun i => ((pss[i]?).bind f).join.isSome) (qf := fun i => ((pss[i]?).bind f).join) (fun i o z => by show ((pss[i]?).bind f).join.isSome = o.isSome ∧ ((pss[i]?).bind f).join = o; rw [z]; exact ⟨rfl, rfl⟩) pss.length 0 qs (by omega) (Nat.zero_le _) (by simpa using e)
    exact ⟨h1, h2⟩
  · obtain ⟨_, _, h3⟩ := gAll_res pss (pz := fun i => ((pss[i]?).bind f).join.isSome) (qf := fun i => ((pss[i]?).bind f).join) (fun i o z => by show ((pss[i]?).bind f).join.isSome = o.isSome ∧ ((pss[i]?).bind f).join = o; rw [z]; exact ⟨rfl, rfl⟩) pss.length 0 qs (by omega) (Nat.zero_le _) (by simpa using e)
    obtain ⟨o, ho⟩ := h3 i ps (Nat.zero_le _) hi
    exact ⟨o, ho, by simp only [hi, Option.bind_some, ho, Option.join_some], by simp only [hi, Option.bind_some, ho, Option.join_some]⟩
/-- a turn with its names -/
theorem turn_env (g : Gd τ G call X c k W) {gx : GenX} {own own' : List Str} (hs : gScope c gx.scope own' = true) {α : Al} {F H1 : Hp} {h1 : Hs} {s : Sl} {σ : St} {P : Addr} (hP : P ∈ τ) (a : At τ X.K α F H1 h1 s σ) {ps : List PyData} {o : Option PyData} {i : Nat} {m : Str → Option Value} {pz : Nat → Bool} {qf : Nat → Option PyData}
    (e : gF G c gx own s h1 ps = some o) (hz : pz i = o.isSome) (hq : qf i = o)
    (hn : ∀ (s2 : Shared) (H2 : Hp), Inv X pins σ H2 s2 → Wd τ X.K α F H2 h1 → ∀ y k p, nameAt own y = some k → ps[k]? = some p → NameIs X gx.scope m s2.heap y p) :
    TurnD X pins σ H1 P (isGl gx.scope "len" && G.blts.contains "len") 12 gx.scope gx.ifs gx.elt pz qf i m := by
  intro s2 H2 t J
  obtain ⟨w2, x2⟩ := a.1.tabbed hP t
  have a2 : At τ X.K α F H2 h1 s σ := a.ext x2 w2
  obtain ⟨e1, e2⟩ := gTurn_spec e
  refine ⟨_, fun y p hy => ?_, by rw [hz]; exact e1, fun z => ?_⟩
  · unfold gEnv at hy
    split at hy
    · rename_i k hk
      exact hn s2 H2 J w2 y k p hk hy
    · exact .inr (cap_at g hs a2 J hy)
  · rw [hz] at z
    obtain ⟨q, rfl⟩ := Option.isSome_iff_exists.mp z
    obtain ⟨r1, r2⟩ := e2 q rfl
    exact ⟨q, hq, r1, r2⟩
theorem turn_envK (g : Gd τ G call X c k W) {gx : GenX} {own own' : List Str} {s1 : Shared} (hs : gScope c gx.scope own' = true) {α : Al} {F H1 : Hp} {h1 : Hs} {s : Sl} {σ : St} {P : Addr} (hP : P ∈ τ) (a : At τ X.K α F H1 h1 s σ) {ps : List PyData} {o : Option PyData} {i : Nat} {m : Str → Option Value} {pz : Nat → Bool} {qf : Nat → Option PyData}
    (e : gF G c gx own s h1 ps = some o) (hz : pz i = o.isSome) (hq : qf i = o)
    (hn : ∀ (s2 : Shared) (H2 : Hp), Inv X pins σ H2 s2 → Wd τ X.K α F H2 h1 → (∀ b o, b ≠ P → s1.heap.get? b = some o → s2.heap.get? b = some o) → ∀ y k p, nameAt own y = some k → ps[k]? = some p → NameIs X gx.scope m s2.heap y p) :
    TurnK X pins σ s1 H1 P (isGl gx.scope "len" && G.blts.contains "len") 12 gx.scope gx.ifs gx.elt pz qf i m := by
  intro s2 H2 t J kp
  obtain ⟨w2, x2⟩ := a.1.tabbed hP t
  have a2 : At τ X.K α F H2 h1 s σ := a.ext x2 w2
  obtain ⟨e1, e2⟩ := gTurn_spec e
  refine ⟨_, fun y p hy => ?_, by rw [hz]; exact e1, fun z => ?_⟩
  · unfold gEnv at hy
    split at hy
    · rename_i k hk
      exact hn s2 H2 J w2 kp y k p hk hy
    · exact .inr (cap_at g hs a2 J hy)
  · rw [hz] at z
    obtain ⟨q, rfl⟩ := Option.isSome_iff_exists.mp z
    obtain ⟨r1, r2⟩ := e2 q rfl
    exact ⟨q, hq, r1, r2⟩
/-! ### the consumers -/
theorem pyBools_get : ∀ {qs : List PyData} {bs : List Bool}, pyBools qs = some bs → bs.length = qs.length ∧ ∀ (i : Nat) q, qs[i]? = some q → ∃ b, q = .bool b ∧ bs[i]? = some b
  | [], bs, e => by cases e; exact ⟨rfl, fun i q z => by simp at z⟩
  | .bool b :: r, bs, e => by
    obtain ⟨bs', e1, rfl⟩ := Option.map_eq_some_iff.mp e
    obtain ⟨h1, h2⟩ := pyBools_get e1
    refine ⟨by simp [h1], fun i q z => ?_⟩
    cases i with
    | zero => simp at z; subst z; exact ⟨b, rfl, rfl⟩
    | succ i => exact h2 i q (by simpa using z)
theorem pyInts_get : ∀ {qs : List PyData} {bs : List Int}, pyInts qs = some bs → bs.length = qs.length ∧ ∀ (i : Nat) q, qs[i]? = some q → ∃ b, q = .int b ∧ bs[i]? = some b
  | [], bs, e => by cases e; exact ⟨rfl, fun i q z => by simp at z⟩
  | .int b :: r, bs, e => by
    obtain ⟨bs', e1, rfl⟩ := Option.map_eq_some_iff.mp e
    obtain ⟨h1, h2⟩ := pyInts_get e1
    refine ⟨by simp [h1], fun i q z => ?_⟩
    cases i with
    | zero => simp at z; subst z; exact ⟨b, rfl, rfl⟩
    | succ i => exact h2 i q (by simpa using z)
theorem any_get (bs : List Bool) : (List.range bs.length).any (fun i => bs.getD i false) = bs.any id := by
  induction bs with
  | nil => rfl
  | cons b r ih => rw [List.length_cons, List.range_succ_eq_map, List.any_cons, List.any_map, List.any_cons, ← ih]; rfl
theorem all_get (bs : List Bool) : (List.range bs.length).all (fun i => bs.getD i false) = bs.all id := by
  induction bs with
  | nil => rfl
  | cons b r ih => rw [List.length_cons, List.range_succ_eq_map, List.all_cons, List.all_map, List.all_cons, ← ih]; rfl
theorem sum_get (bs : List Int) : ∀ n, n ≤ bs.length → preSum (fun i => bs.getD i 0) n = (bs.take n).sum
  | 0, _ => by simp [preSum]
  | n + 1, h => by
    have := sum_get bs n (by omega)
    rw [List.take_succ, List.sum_append, ← this, List.getElem?_eq_getElem h]
    simp [preSum, List.getD, List.getElem?_eq_getElem h]
/-- what a consumer is handed -/
theorem con_ok {con : Con} {σ : St} {H1 : Hp} {P : Addr} {qs : List PyData} {α : Al} {F : Hp} {h1 : Hs} {s : Sl} {Q : V → Hp → Prop} (hP : P ∈ τ) (a : At τ X.K α F H1 h1 s σ) (p : RP τ X.K X.mg (fun c d H => W c d σ H) (RD X.K) α F H1 (conD con qs h1) Q) (hc : X.calm = true)
    {x : Str} (hx : conOf x = some con) {g : Addr} {s5 : Shared} (r : ReadyD X pins σ H1 P qs g s5) : ∃ f, bootBuiltins x = some f ∧ wpAny (model X.prog X.w) X.A (PySem.call f [.ref g]) (fun v s' => ∃ y H2, Inv X pins σ H2 s' ∧ RelV y v ∧ Q y H2) X.xe s5 := by
  obtain ⟨fp, wr, G, F', St, W2, W1, hst, hfp, hgf, hgen, hF, hI⟩ := r
  have fin : ∀ {s' : Shared} {y : V} {v : Value} {d : D}, conD con qs h1 = .ok d h1 → (∀ α F, RD X.K α F d y) → RelV y v → Moved wr G s5 s' → ∃ y H2, Inv X pins σ H2 s' ∧ RelV y v ∧ Q y H2 := by
    intro s' y v d e rd rv hm
    obtain ⟨H2, t, J⟩ := hI s' hm
    obtain ⟨w2, x2⟩ := a.1.tabbed hP t
    rw [e] at p
    exact ⟨y, H2, J, rv, p _ _ _ _ x2 w2 (rd _ _)⟩
  unfold conOf at hx
  split at hx
  · rename_i hx'
    cases hx
    subst hx'
    refine ⟨_, boot_any, ?_⟩
    cases hb : pyBools qs with
    | none => simp only [conD, hb] at p; exact p.elim
    | some bs =>
      obtain ⟨hl, hg⟩ := pyBools_get hb
      refine call_any_walkS (W1.self 0 _ _ _ hst ⟨g, fp, wr, G, _, F', St, fun i => bs.getD i false, rfl, W1, hst, ?_, fun s' hm => ?_⟩)
      · intro j v sj Qj Ej hv hq
        obtain ⟨q, e1, e2⟩ := hF j v hv
        obtain ⟨b, rfl, e3⟩ := hg j q e1
        cases e2
        refine wpAny_truthy_bool ?_
        have hq : Qj (bs.getD j false) sj := hq
        rw [List.getD_eq_getElem?_getD, e3] at hq
        exact hq
      · rw [← hl, any_get]
        exact fin (d := .bl (bs.any id)) (by simp only [conD, hb]) (fun _ _ => .bl _) rfl hm
  · split at hx
    · rename_i hx'
      cases hx
      subst hx'
      refine ⟨_, rfl, ?_⟩
      cases hb : pyBools qs with
      | none => simp only [conD, hb] at p; exact p.elim
      | some bs =>
        obtain ⟨hl, hg⟩ := pyBools_get hb
        refine call_all_walkS (W1.self 0 _ _ _ hst ⟨g, fp, wr, G, _, F', St, fun i => bs.getD i false, rfl, W1, hst, ?_, fun s' hm => ?_⟩)
        · intro j v sj Qj Ej hv hq
          obtain ⟨q, e1, e2⟩ := hF j v hv
          obtain ⟨b, rfl, e3⟩ := hg j q e1
          cases e2
          refine wpAny_truthy_bool ?_
          have hq : Qj (bs.getD j false) sj := hq
          rw [List.getD_eq_getElem?_getD, e3] at hq
          exact hq
        · rw [← hl, all_get]
          exact fin (d := .bl (bs.all id)) (by simp only [conD, hb]) (fun _ _ => .bl _) rfl hm
    · split at hx
      · rename_i hx'
        cases hx
        subst hx'
        refine ⟨_, rfl, ?_⟩
        cases hb : pyInts qs with
        | none => simp only [conD, hb] at p; exact p.elim
        | some bs =>
          obtain ⟨hl, hg⟩ := pyInts_get hb
          refine call_sum_walkAnyS (W1.self 0 _ _ _ hst ⟨g, fp, wr, G, _, F', St, fun i => bs.getD i 0, rfl, W1, hst, hfp, ?_, fun s' t' hm => ?_⟩)
          · intro j v hv
            obtain ⟨q, e1, e2⟩ := hF j v hv
            obtain ⟨b, rfl, e3⟩ := hg j q e1
            obtain ⟨t, rfl⟩ := e2
            refine ⟨t, ?_⟩
            show Value.int b t = Value.int (bs.getD j 0) t
            rw [List.getD_eq_getElem?_getD, e3] <;> rfl
          · rw [← hl, sum_get bs _ (Nat.le_refl _), List.take_length]
            exact fin (d := .int bs.sum) (by simp only [conD, hb]) (fun _ _ => .int _) ⟨_, rfl⟩ hm
      · cases hx
theorem gFold_no {it : Expr} {env : Env} (h1 : isLstX it = false) (h2 : isSet it = false) (v : Value) : genFold it env v = pure v := by
  cases it with
  | List => simp [isLstX] at h1
  | Set => simp [isSet] at h2
  | _ => rfl
/-- the generator made and consumed -/
theorem genE_ok (g : Gd τ G call X c k W) (ih : ∀ e, PE X e (tE τ X.K X.mg W (S.e c e))) {con : Con} {gx : GenX} {gpos : Pos} {α : Al} {F H : Hp} {h : Hs} {s : Sl} {σ : St} {sh : Shared} {Q : V → Hp → Prop} {Q' : Value → Shared → Prop} (a : At τ X.K α F H h s σ) (I : Inv X pins σ H sh)
    (p : RP τ X.K X.mg (fun c d H => W c d σ H) (RD X.K) α F H ((genE G S c gx s h).bind (conD con)) Q)
    (hq : ∀ {P : Addr} {α1 : Al} {F1 H1 : Hp} {h1 : Hs} {qs : List PyData}, P ∈ τ → At τ X.K α1 F1 H1 h1 s σ → RP τ X.K X.mg (fun c d H => W c d σ H) (RD X.K) α1 F1 H1 (conD con qs h1) Q → ∀ ga s5, ReadyD X pins σ H1 P qs ga s5 → Q' (.ref ga) s5) :
    wpAny (model X.prog X.w) X.A (eval (.GeneratorExp gx.elt [⟨gx.tg, gx.it, gx.ifs, 0⟩] gx.scope gpos) X.env) Q' X.xe sh := by
  obtain ⟨elt, tg, it, ifs, scope⟩ := gx
  unfold genE at p
  simp only at p ⊢
  cases ho : gOwn tg with
  | none => rw [ho] at p; exact p.elim
  | some own =>
    rw [ho] at p
    simp only at p
    split at p
    · rename_i hcond
      simp only [Bool.and_eq_true, Bool.not_eq_true'] at hcond
      obtain ⟨⟨⟨hg1, hg2⟩, hg3⟩, hg4⟩ := hcond
      split at p
      · rename_i hbd
        obtain ⟨cc, P, hcode, TB, hP⟩ := g.gen hg1
        obtain ⟨GT, hown, hnd⟩ := gScope_t g hg2 a I hbd
        rw [Res.bind_assoc] at p
        have hln : (isGl scope "len" && G.blts.contains "len") = true → scope.names.lookup ("len" : Str) = some .globalImplicit ∧ X.mg "len" = none := fun z => by
          rw [Bool.and_eq_true] at z
          refine ⟨?_, g.top.blts "len" (List.contains_iff_mem.mp z.2)⟩
          have := z.1
          unfold isGl at this
          split at this
          · assumption
          · cases this
        have hu : X.A.units + 90 < cLine := by have := g.room.un; omega
        unfold gOwn at ho
        split at ho
        · rename_i x px
          cases ho
          obtain ⟨hx1, hx2⟩ := hown x (List.mem_singleton.mpr rfl)
          refine gen_name (pins := pins) (σ := σ) (c := cc) (P := P) (N := 12) hln g.room hu TB hcode GT hx1 (wpAny_mono (walk_one g ih (pins := pins) a I p) (fun xv s₁ h₁ => wpAny_mono h₁ (fun it' s₂ h₂ => ?_) fun _ _ e => e) fun _ _ e => e) (gFold_no hg3 hg4)
          obtain ⟨s1, H1, h2, tk2, Ia, fp, wr, Pf, St₀, α1, F1, h1, xs, e1, e2, git, W1, a1, hr, z⟩ := h₂
          cases hpr : gPres [x] xs with
          | none => rw [hpr] at z; exact z.elim
          | some pss =>
            rw [hpr] at z
            simp only [Option.bind_some] at z
            cases hqs : gAll (fun ps => gTurn (isGl scope "len" && G.blts.contains "len") (gEnv (gCap G c scope s h1) [x] ps) ifs elt) pss with
            | none => rw [hqs] at z; exact z.elim
            | some qs =>
              rw [hqs] at z
              obtain ⟨hl, hget⟩ := gPres_get hpr
              obtain ⟨pz, qf, hres, hturn⟩ := turns_of hqs
              refine ⟨s1, H1, h2, tk2, Ia, fp, wr, xs.length, Pf, St₀, pz, qf, qs, e1, e2, git P hP, W1, by rw [← hl]; exact hres, fun i v m hv hm => ?_, fun ga s5 rd => hq hP a1 z ga s5 rd⟩
              obtain ⟨d, hd, hra⟩ := hr i v hv
              obtain ⟨ps, hps, hpre⟩ := hget i d hd
              obtain ⟨o, ho1, ho2, ho3⟩ := hturn i ps hps
              refine turn_env g (gx := ⟨elt, .Name x px, it, ifs, scope⟩) hg2 hP a1 ho1 ho2 ho3 fun s2 H2 J w2 y k pd hy hp => ?_
              obtain ⟨p0, hp0, rfl⟩ := Option.map_eq_some_iff.mp (show d.py.map (fun p => [p]) = some ps from hpre)
              have : y = x ∧ k = 0 := by
                unfold nameAt at hy
                split at hy
                · rename_i e
                  cases hy
                  exact ⟨e, rfl⟩
                · cases hy
              obtain ⟨rfl, rfl⟩ := this
              have : pd = p0 := by simpa using hp.symm
              subst this
              exact .inl ⟨v, hm, hx1, hx2, hra s2 H2 J w2 pd hp0⟩
        · rename_i xa pa xb pb kt pt
          cases ho
          obtain ⟨hx1, hx2⟩ := hown xa List.mem_cons_self
          obtain ⟨hy1, hy2⟩ := hown xb (List.mem_cons_of_mem _ List.mem_cons_self)
          have hnd : [xa, xb].Nodup := hnd
          have hab : xa ≠ xb := by
            intro z
            rw [z] at hnd
            simp at hnd
          refine gen_two (pins := pins) (σ := σ) (c := cc) (P := P) (N := 12) hln g.room hu TB hcode GT hx1 hy1 hab (wpAny_mono (walk_two g ih (pins := pins) a I p fun xs h z => ?_) (fun xv s₁ h₁ => wpAny_mono h₁ (fun it' s₂ h₂ => ?_) fun _ _ e => e) fun _ _ e => e) (gFold_no hg3 hg4)
          · cases hpr : gPres [xa, xb] xs with
            | none => rw [hpr] at z; exact absurd rfl z
            | some pss => exact pres_pairs hpr
          obtain ⟨s1, H1, h2, tk2, Ia, fp, wr, Pt, St₀, Mid, α1, F1, h1, xs, e1, e2, git, W1, a1, hr, z⟩ := h₂
          cases hpr : gPres [xa, xb] xs with
          | none => rw [hpr] at z; exact z.elim
          | some pss =>
            rw [hpr] at z
            simp only [Option.bind_some] at z
            cases hqs : gAll (fun ps => gTurn (isGl scope "len" && G.blts.contains "len") (gEnv (gCap G c scope s h1) [xa, xb] ps) ifs elt) pss with
            | none => rw [hqs] at z; exact z.elim
            | some qs =>
              rw [hqs] at z
              obtain ⟨hl, hget⟩ := gPres_get hpr
              obtain ⟨pz, qf, hres, hturn⟩ := turns_of hqs
              refine ⟨s1, H1, h2, tk2, Ia, fp, wr, xs.length, Pt, St₀, Mid, pz, qf, qs, e1, e2, git P hP, W1, fun i vals hv => ?_, by rw [← hl]; exact hres, fun i va vb m hv hma hmb => ?_, fun ga s5 rd => hq hP a1 z ga s5 rd⟩
              · obtain ⟨va, vb, _, _, e, _⟩ := hr i vals hv
                exact ⟨va, vb, e⟩
              · obtain ⟨va', vb', da, db, ev, hd, hra, hrb⟩ := hr i _ hv
                cases ev
                obtain ⟨ps, hps, hpre⟩ := hget i _ hd
                obtain ⟨o, ho1, ho2, ho3⟩ := hturn i ps hps
                refine turn_env g (gx := ⟨elt, .Tuple [.Name xa pa, .Name xb pb] kt pt, it, ifs, scope⟩) hg2 hP a1 ho1 ho2 ho3 fun s2 H2 J w2 y k pd hy hp => ?_
                have hpre : D.pys [da, db] = some ps := hpre
                simp only [D.pys, Option.bind_eq_some_iff, Option.map_eq_some_iff] at hpre
                obtain ⟨p0, hp0, qs0, ⟨p1, hp1, qs1, hq1, rfl⟩, rfl⟩ := hpre
                cases hq1
                unfold nameAt at hy
                split at hy
                · rename_i e
                  cases hy
                  subst e
                  have : pd = p0 := by simpa using hp.symm
                  subst this
                  exact .inl ⟨va, hma, hx1, hx2, hra s2 H2 J w2 pd hp0⟩
                · unfold nameAt at hy
                  split at hy
                  · rename_i e
                    cases hy
                    subst e
                    have : pd = p1 := by simpa using hp.symm
                    subst this
                    exact .inl ⟨vb, hmb, hy1, hy2, hrb s2 H2 J w2 pd hp1⟩
                  · cases hy
        · rename_i xa pa es k2 p2 kt pt
          split at ho
          · rename_i ns hns
            split at ho
            · rename_i hn2
              cases ho
              obtain ⟨xs0, rfl, rfl⟩ := nmsOf_eq hns
              have hmem : ∀ x, x ∈ (xs0.map (·.1)).reverse ++ [xa] → x ∈ gUq ((xs0.map (·.1)).reverse ++ [xa]) := fun x hx => by
                unfold gUq
                split
                · rename_i e; rw [e] at hx; exact hx
                · rename_i e; rw [e] at hx; exact hx
                · exact List.mem_eraseDups.mpr hx
              obtain ⟨hx1, hx2⟩ := hown xa (hmem xa (List.mem_append.mpr (.inr (List.mem_singleton.mpr rfl))))
              have hxs : ∀ x ∈ xs0, scope.names.lookup x.1 = some .local := fun x hx => (hown x.1 (hmem x.1 (List.mem_append.mpr (.inl (List.mem_reverse.mpr (List.mem_map.mpr ⟨x, hx, rfl⟩)))))).1
              obtain ⟨o1, o2, o3, orr, ho3⟩ : ∃ a b c r, (xs0.map (·.1)).reverse ++ [xa] = a :: b :: c :: r := by
                have hl : ((xs0.map (·.1)).reverse ++ [xa]).length = xs0.length + 1 := by simp
                rw [List.length_map] at hn2
                match h : (xs0.map (·.1)).reverse ++ [xa] with
                | [] => rw [h] at hl; simp only [List.length_nil] at hl; omega
                | [_] => rw [h] at hl; simp only [List.length_cons, List.length_nil] at hl; omega
                | [_, _] => rw [h] at hl; simp only [List.length_cons, List.length_nil] at hl; omega
                | a :: b :: c :: r => exact ⟨a, b, c, r, rfl⟩
              refine gen_nest (pins := pins) (σ := σ) (c := cc) (P := P) (N := 12) hln g.room hu TB hcode GT hx1 hxs (wpAny_mono (walk_two g ih (pins := pins) a I p fun xs h z => ?_) (fun xv s₁ h₁ => wpAny_mono h₁ (fun it' s₂ h₂ => ?_) fun _ _ e => e) fun _ _ e => e) (gFold_no hg3 hg4)
              · cases hpr : gPres ((xs0.map (·.1)).reverse ++ [xa]) xs with
                | none => rw [hpr] at z; exact absurd rfl z
                | some pss => rw [ho3] at hpr; exact pres_nest hpr
              obtain ⟨s1, H1, h2, tk2, Ia, fp, wr, Pt, St₀, Mid, α1, F1, h1, xs, e1, e2, git, W1, a1, hr, z⟩ := h₂
              cases hpr : gPres ((xs0.map (·.1)).reverse ++ [xa]) xs with
              | none => rw [hpr] at z; exact z.elim
              | some pss =>
                rw [hpr] at z
                simp only [Option.bind_some] at z
                cases hqs : gAll (fun ps => gTurn (isGl scope "len" && G.blts.contains "len") (gEnv (gCap G c scope s h1) ((xs0.map (·.1)).reverse ++ [xa]) ps) ifs elt) pss with
                | none => rw [hqs] at z; exact z.elim
                | some qs =>
                  rw [hqs] at z
                  obtain ⟨hl, hget⟩ := gPres_get hpr
                  obtain ⟨pz, qf, hres, hturn⟩ := turns_of hqs
                  have git1 := git P hP
                  -- an item's second part
                  have part : ∀ da db ps, gPre ((xs0.map (·.1)).reverse ++ [xa]) (.tup [da, db]) = some ps → ∃ qs p0, db.py = some (.tuple qs) ∧ da.py = some p0 ∧ ps = qs.reverse ++ [p0] ∧ qs.length = xs0.length := fun da db ps hp => by
                    have hlen : ((xs0.map (·.1)).reverse ++ [xa]).length = xs0.length + 1 := by simp
                    rw [ho3] at hp hlen
                    cases db with
                    | tup bs =>
                      have hp : (if (o1 :: o2 :: o3 :: orr).length = bs.length + 1 then da.py.bind fun p => (D.pys bs).map fun qs => qs.reverse ++ [p] else none) = some ps := hp
                      split at hp
                      · rename_i hbl
                        obtain ⟨p0, h1, hp⟩ := Option.bind_eq_some_iff.mp hp
                        obtain ⟨qs, h2, rfl⟩ := Option.map_eq_some_iff.mp hp
                        refine ⟨qs, p0, by show (D.pys bs).map PyData.tuple = _; rw [h2]; rfl, h1, rfl, ?_⟩
                        have := pys_len h2
                        omega
                      · cases hp
                    | _ => cases hp
                  refine ⟨s1, H1, h2, tk2, Ia, fp, wr, xs.length, Pt, St₀, Mid, pz, qf, qs, e1, e2, git1, W1, fun i vals hv => ?_, by rw [← hl]; exact hres, fun i va b items m hv it1 hm => ?_, fun ga s5 rd => hq hP a1 z ga s5 rd⟩
                  · obtain ⟨va, vb, da, db, rfl, hd, hra, hrb⟩ := hr i vals hv
                    obtain ⟨ps, hps, hpre⟩ := hget i _ hd
                    obtain ⟨qs', p0, h3, _, _, h4⟩ := part da db ps hpre
                    obtain ⟨as, rr⟩ := hrb s1 H1 git1.I1 a1.1 _ h3
                    cases rr with
                    | @tuple b o vs n _ _ g1 g2 g3 g4 =>
                      refine ⟨va, b, vs, rfl, fun zb => ?_, ⟨o, g1, g2, n, g3⟩, by have := readsAll_len g4; rw [Array.length_toList] at this; omega⟩
                      obtain ⟨ps0, hP0, _⟩ := git1.tab
                      have := git1.I1.hok P _ hP0
                      rw [zb, show s1.heap.get? P = some { cls := .none, data := .fields ps0 } from this] at g1
                      cases g1
                      cases g2
                  · obtain ⟨va', vb', da, db, ev, hd, hra, hrb⟩ := hr i _ hv
                    cases ev
                    obtain ⟨ps, hps, hpre⟩ := hget i _ hd
                    obtain ⟨qs', p0, h3, h5, rfl, h4⟩ := part da db ps hpre
                    obtain ⟨o, ho1, ho2, ho3'⟩ := hturn i _ hps
                    refine turn_envK g (gx := ⟨elt, .Tuple [.Name xa pa, .Tuple (xs0.map nmE) k2 p2] kt pt, it, ifs, scope⟩) (s1 := s1) hg2 hP a1 ho1 ho2 ho3' fun s2 H2 J w2 kp y k pd hy hp => ?_
                    obtain ⟨as, rr⟩ := hrb s2 H2 J w2 _ h3
                    obtain ⟨ob, eo, eo2, n0, eo3⟩ := it1
                    have nbP : b ≠ P := fun zb => by
                      obtain ⟨ps0, hP0, _⟩ := git1.tab
                      have := git1.I1.hok P _ hP0
                      rw [zb, show s1.heap.get? P = some { cls := .none, data := .fields ps0 } from this] at eo
                      cases eo
                      cases eo2
                    have eo' := kp b ob nbP eo
                    cases rr with
                    | @tuple _ o' vs n _ _ g1 g2 g3 g4 =>
                      rw [eo'] at g1
                      cases g1
                      rw [eo3] at g3
                      cases g3
                      obtain ⟨v, hv1, hv2⟩ := reads_rev g4 (hra s2 H2 J w2 p0 h5) hp
                      have hyo : y ∈ (xs0.map (·.1)).reverse ++ [xa] := List.mem_of_getElem? (nameAt_get hy)
                      obtain ⟨hy1, hy2⟩ := hown y (hmem y hyo)
                      exact .inl ⟨v, (hm y k hy).trans hv1, hy1, hy2, hv2⟩
            · cases ho
          · cases ho
        · cases ho
      · exact p.elim
    · exact p.elim
theorem genOf_eq {es : List Expr} {gx : GenX} (e : genOf es = some gx) : ∃ gpos, es = [.GeneratorExp gx.elt [⟨gx.tg, gx.it, gx.ifs, 0⟩] gx.scope gpos] := by
  unfold genOf at e
  split at e
  · cases e
    exact ⟨_, rfl⟩
  · cases e
theorem pe_gen (g : Gd τ G call X c k W) (ih : ∀ e, PE X e (tE τ X.K X.mg W (S.e c e))) (x : Str) {gx : GenX} {es : List Expr} (p pos : Pos) (he : genOf es = some gx) : PE X (.Call (.Name x p) es [] pos) (tE τ X.K X.mg W (genC G S c x gx)) := by
  obtain ⟨gpos, rfl⟩ := genOf_eq he
  refine ⟨fun pins s σ H Q I h => ?_⟩
  obtain ⟨α, F, hp, sl, a, q⟩ := h
  unfold genC at q
  split at q
  · rename_i hb
    rw [Bool.and_eq_true] at hb
    obtain ⟨h1, h2⟩ := isBlt_ok g hb.1
    cases hc : conOf x with
    | none => rw [hc] at q; exact q.elim
    | some con =>
      rw [hc] at q
      have hbt : ∃ f, bootBuiltins x = some (.builtin f) ∧ x ≠ "__name__" ∧ (x == ("__debug__" : Str)) = false := by
        unfold conOf at hc
        split at hc
        · rename_i z; subst z; exact ⟨_, boot_any, by decide, by decide⟩
        · split at hc
          · rename_i z; subst z; exact ⟨"all", rfl, by decide, by decide⟩
          · split at hc
            · rename_i z; subst z; exact ⟨"sum", rfl, by decide, by decide⟩
            · cases hc
      obtain ⟨f, hf, hn, hd⟩ := hbt
      refine wpAny_Call_Name_kw (ld_blt I h1 h2 hf ?_ hn hd)
      refine PyProof.Rows.callWith_builtin1 ?_ rfl rfl
      show wpAny _ _ (spliced ((false, eval (.GeneratorExp gx.elt [⟨gx.tg, gx.it, gx.ifs, 0⟩] gx.scope gpos) X.env) :: backTo pos (starEach [] X.env))) _ _ s
      refine Calls.spliced_cons (genE_ok g ih (pins := pins) (con := con) a I q fun {P α1 F1 H1 h1 qs} hP a1 z ga s5 rd => ?_)
      refine Calls.spliced_nil ?_
      obtain ⟨f', hf', hw⟩ := con_ok (pins := pins) hP a1 z g.calm hc rd
      rw [hf] at hf'
      cases hf'
      exact wpAny_mono hw (fun v s' ⟨y, H2, J, rv, hQ⟩ => ⟨y, H2, J, rv, hQ⟩) fun _ _ e => e
  · exact q.elim
end
end Bk

/-! BkSet2: len(set(..)), sorted(set(..)) of ints. -/
namespace Bk
open PySem PySem.Spec PyProof.Rows L2
theorem dedup_mem (k : Int) : ∀ l : List Int, k ∈ dedupI l ↔ k ∈ l
  | [] => by simp [dedupI]
  | x :: r => by
    unfold dedupI
    have ih := dedup_mem k r
    split
    · rename_i h
      rw [ih, List.mem_cons]
      refine ⟨.inr, fun z => ?_⟩
      rcases z with rfl | z
      · exact List.contains_iff_mem.mp h
      · exact z
    · rw [List.mem_cons, List.mem_cons, ih]
theorem dedup_nodup : ∀ l : List Int, (dedupI l).Nodup
  | [] => by simp [dedupI]
  | x :: r => by
    unfold dedupI
    split
    · exact dedup_nodup r
    · rename_i h
      refine List.nodup_cons.mpr ⟨fun z => h ?_, dedup_nodup r⟩
      exact List.contains_iff_mem.mpr ((dedup_mem x r).mp z)
theorem same_len {a b : List Int} (ha : a.Nodup) (hb : b.Nodup) (h : ∀ k, k ∈ a ↔ k ∈ b) : a.length = b.length := ((List.perm_ext_iff_of_nodup ha hb).mpr h).length_eq
/-- the set's size -/
theorem setR_size {w : World} {hp : Heap} {a : Addr} {js : List Int} {n : Nat} (R : SetR w hp a (fun j => decide (j ∈ js)) n) : n = (dedupI js).length := by
  obtain ⟨o, es, ep, t, ho, hex, hd, g, nd, hm, hb, hf, hn, hr, hl⟩ := R
  rw [← hn, ← Array.length_toList, ← List.length_map (as := es.toList) keyOf]
  refine same_len nd (dedup_nodup js) fun k => ?_
  rw [dedup_mem, ← hm]
  simp
section
variable {G : Cfg} {call : Str → List D → Hs → Res D} {X : Cx} {c : Ctx} {k : Nat} {W : WX} {S : Sm}
/-- set(a), a list or tuple of ints, then what is made of it -/
theorem set_then (g : Gd τ G call X c k W) {pins : List (Addr × Obj)} {σ : St} {sh : Shared} {H : Hp} {α : Al} {F : Hp} {h : Hs} {d : D} {v : V} {u : Value} {is : List Int} {Q : Value → Shared → Prop} (I : Inv X pins σ H sh) (w : Wd τ X.K α F H h) (rd : RD X.K α F d v) (rv : RelV v u)
    (e : (d.seq h).bind D.ints = some is) (few : is.length ≤ 4000)
    (q : ∀ (hp : Heap) (tk : Nat), SetR X.w hp sh.heap.objs.size (fun j => decide (j ∈ is)) (dedupI is).length → (∀ b o, sh.heap.get? b = some o → hp.get? b = some o) → Q (.ref sh.heap.objs.size) { sh with heap := hp, toks := tk }) :
    wpAny (model X.prog X.w) X.A (PySem.call (.type "set") [u]) Q X.xe sh := by
  obtain ⟨xs, h1, h2⟩ := Option.bind_eq_some_iff.mp e
  obtain ⟨a, vs, rfl, f, qq⟩ := seq_of w rd h1
  cases rv
  have hv := ints_of qq h2
  subst hv
  have hb : is.length + 1 < scanBound := by unfold scanBound; omega
  rcases f with f | f
  · obtain ⟨its, r, pl, _⟩ := I.list f
    refine set_of_list is (I.ok.hd g.calm) pl.isList (by simpa using r.ints) hb fun hp tk n R hk => ?_
    have := setR_size R
    subst this
    exact q hp tk R hk
  · obtain ⟨its, r, pl, _⟩ := I.tuple f
    refine call_set_tupI is (I.ok.hd g.calm) (show sh.heap.IsTuple a its.toArray from pl) (by simpa using r.ints) hb fun hp tk n R _ hk => ?_
    have := setR_size R
    subst this
    exact q hp tk R hk
theorem sorted_then (g : Gd τ G call X c k W) {pins : List (Addr × Obj)} {σ : St} {s2 : Shared} {H : Hp} {α : Al} {F : Hp} {h : Hs} {a : Addr} {is : List Int} {l : Bool} {E : XK} {Q : V → Hp → Prop} (I : Inv X pins σ H s2) (w : Wd τ X.K α F H h) (R : SetR X.w s2.heap a (fun j => decide (j ∈ is)) (dedupI is).length) (few : (dedupI is).length < 64)
    (p : RP τ X.K X.mg E (RD X.K) α F H (mkL l ((sortI (dedupI is)).map .int) h) Q) : wpAny (model X.prog X.w) X.A (PySem.call (.builtin "sorted") [.ref a]) (fun v s' => ∃ y H2, Inv X pins σ H2 s' ∧ RelV y v ∧ Q y H2) X.xe s2 := by
  refine sorted_set R (I.ok.hd g.calm) few fun s' pp out cc ns kk gg oo hpp hget hi hpw hmem hlen => ?_
  have hn : H pp = none := I.hok.fresh hpp
  have e1 : ns = sortI (dedupI is) := by
    refine sorted_one ?_ (hpw.imp fun z => Int.le_of_lt z) (sortI_sorted _)
    refine ((List.perm_ext_iff_of_nodup (hpw.imp fun z => Int.ne_of_lt z) (dedup_nodup is)).mpr fun k => ?_).trans (sortI_perm _).symm
    rw [hmem, dedup_mem]; simp
  subst e1
  have hv : Vals ((sortI (dedupI is)).map V.int) out.toList := vals_ints hi
  have J : Inv X pins σ (upd H pp (.lst ((sortI (dedupI is)).map V.int))) { s2 with heap := s'.heap, gens := s'.gens, drawn := s'.drawn, toks := s'.toks } :=
    I.call (ch := []) (Un.laid kk hpp hn) (I.hok.laid kk hpp ⟨by rw [List.length_map, hlen, sizeLine_eq]; omega, out.toList, cc, hv, hget⟩) (by rw [gg]; exact I.bare) (fun _ z => nomatch z)
  have e2 : s' = { s2 with heap := s'.heap, gens := s'.gens, drawn := s'.drawn, toks := s'.toks } := by
    cases s'
    cases s2
    cases oo
    rfl
  rw [e2]
  exact ⟨.ref pp, _, J, rfl, (RP.mkL w (RDs.ints _) p).2 pp hn⟩
/-! of tuples -/
theorem dedupT_mem (k : List Int) : ∀ l : List (List Int), k ∈ dedupT l ↔ k ∈ l
  | [] => by simp [dedupT]
  | x :: r => by
    unfold dedupT
    have ih := dedupT_mem k r
    split
    · rename_i h
      rw [ih, List.mem_cons]
      refine ⟨.inr, fun z => ?_⟩
      rcases z with rfl | z
      · exact h
      · exact z
    · rw [List.mem_cons, List.mem_cons, ih]
theorem dedupT_nodup : ∀ l : List (List Int), (dedupT l).Nodup
  | [] => by simp [dedupT]
  | x :: r => by
    unfold dedupT
    split
    · exact dedupT_nodup r
    · rename_i h
      exact List.nodup_cons.mpr ⟨fun z => h ((dedupT_mem x r).mp z), dedupT_nodup r⟩
theorem perm_lift {A B : Type} {f : A → B} {us vs : List B} (p : us.Perm vs) : ∀ L : List A, vs = L.map f → ∃ L1 : List A, L1.Perm L ∧ us = L1.map f := by
  induction p with
  | nil => intro L e; exact ⟨L, .refl _, e⟩
  | cons x _ ih =>
    intro L e
    cases L with
    | nil => cases e
    | cons a L =>
      rw [List.map_cons] at e
      injection e with e1 e2
      obtain ⟨L1, h1, h2⟩ := ih L e2
      exact ⟨a :: L1, h1.cons a, by rw [List.map_cons, e1, h2]⟩
  | swap x y l =>
    intro L e
    match L, e with
    | a :: b :: L, e =>
      rw [List.map_cons, List.map_cons] at e
      injection e with e1 e2
      injection e2 with e2 e3
      exact ⟨b :: a :: L, .swap a b L, by rw [List.map_cons, List.map_cons, e1, e2, e3]⟩
  | trans _ _ ih1 ih2 =>
    intro L e
    obtain ⟨L1, h1, h2⟩ := ih2 L e
    obtain ⟨L2, h3, h4⟩ := ih1 L1 h2
    exact ⟨L2, h3.trans h1, h4⟩
theorem tups_of {K : PySem.W.Frag} {α : Al} {F : Hp} : ∀ {ds : List D} {vs : List V} {ks : List (List Int)}, RDs K α F ds vs → D.tupsT ds = some ks → ∃ kas : List (Addr × List Int), vs = kas.map (fun p => V.ref p.1) ∧ kas.map (·.2) = ks ∧ ∀ p ∈ kas, SqT K F p.1 (p.2.map V.int)
  | _, _, _, .nil, e => by
    cases e
    exact ⟨[], rfl, rfl, fun p h => (List.not_mem_nil h).elim⟩
  | d :: ds, _, _, .cons r rs, e => by
    obtain ⟨k, e1, e⟩ := Option.bind_eq_some_iff.mp (show (keyT d).bind (fun k => (D.tupsT ds).map fun ks => k :: ks) = _ from e)
    obtain ⟨ks, e2, rfl⟩ := Option.map_eq_some_iff.mp e
    obtain ⟨kas, h1, h2, h3⟩ := tups_of rs e2
    obtain ⟨b, hv, hb⟩ := keyT_ok r e1
    subst hv
    refine ⟨(b, k) :: kas, by rw [h1]; rfl, by rw [List.map_cons, h2], fun p hp => ?_⟩
    rcases List.mem_cons.mp hp with rfl | hp
    · exact hb
    · exact h3 p hp
theorem set_thenT (g : Gd τ G call X c k W) {pins : List (Addr × Obj)} {σ : St} {sh : Shared} {H : Hp} {α : Al} {F : Hp} {h : Hs} {d : D} {v : V} {u : Value} {ks : List (List Int)} {Q : Value → Shared → Prop} (I : Inv X pins σ H sh) (w : Wd τ X.K α F H h) (rd : RD X.K α F d v) (rv : RelV v u)
    (e : (d.items h).bind D.tupsT = some ks) (few : ks.length < 64)
    (q : ∀ (hp : Heap) (tk : Nat) (L : List (Addr × List Int)) (es : Array (Int × Value)) (ep : Nat) (t : SetTable), SetTR X.prog X.w hp sh.heap.objs.size L es ep t → (L.map (·.2)).Perm (dedupT ks) → (∀ p ∈ L, SqT X.K F p.1 (p.2.map V.int)) → (∀ b o, sh.heap.get? b = some o → hp.get? b = some o) → Q (.ref sh.heap.objs.size) { sh with heap := hp, toks := tk }) :
    wpAny (model X.prog X.w) X.A (PySem.call (.type "set") [u]) Q X.xe sh := by
  obtain ⟨xs, h1, h2⟩ := Option.bind_eq_some_iff.mp e
  obtain ⟨a, rfl⟩ : ∃ a, v = .ref a := by cases rd <;> first | exact ⟨_, rfl⟩ | cases h1
  obtain ⟨vs, f, qq⟩ := items_live w rd h1
  obtain ⟨kas, rfl, hk2, hk3⟩ := tups_of qq h2
  cases rv
  obtain ⟨its, r, pl, _⟩ := I.list f
  have hl : kas.length < 64 := by rw [← hk2, List.length_map] at few; exact few
  refine call_set_tups (P := X.prog) (w := X.w) kas (I.ok.hd g.calm) pl.isList (by simpa using refs_of_vals r) (fun p hp => L2.Inv.isT I (Same.seqT w.sub (hk3 p hp))) hl (by have := g.hu; omega) fun h' tk L es ep t R gt hk => ?_
  have sub : ∀ p ∈ L, p ∈ kas := fun p hp => List.mem_of_mem_take (gt.sub p hp)
  refine q h' tk L es ep t R ((List.perm_ext_iff_of_nodup R.nd (dedupT_nodup ks)).mpr fun k => ?_) (fun p hp => hk3 p (sub p hp)) hk
  rw [dedupT_mem, ← hk2]
  constructor
  · intro z
    obtain ⟨p, hp, rfl⟩ := List.mem_map.mp z
    exact List.mem_map.mpr ⟨p, sub p hp, rfl⟩
  · intro z
    obtain ⟨p, hp, rfl⟩ := List.mem_map.mp z
    exact gt.all p (by rw [List.take_length]; exact hp)
open PySem.W in
theorem sorted_thenT (g : Gd τ G call X c k W) {pins : List (Addr × Obj)} {σ : St} {s2 : Shared} {H : Hp} {α : Al} {F : Hp} {h : Hs} {a : Addr} {ks : List (List Int)} {l : Bool} {E : XK} {Q : V → Hp → Prop} {L : List (Addr × List Int)} {es : Array (Int × Value)} {ep : Nat} {t : SetTable} (I : Inv X pins σ H s2) (w : Wd τ X.K α F H h)
    (R : SetTR X.prog X.w s2.heap a L es ep t) (pm0 : (L.map (·.2)).Perm (dedupT ks)) (hk0 : ∀ p ∈ L, SqT X.K F p.1 (p.2.map V.int)) (hs : srtOk ((dedupT ks).map pyI) = true)
    (p : RP τ X.K X.mg E (RD X.K) α F H (mkL l ((srtI (dedupT ks)).map encI) h) Q) : wpAny (model X.prog X.w) X.A (PySem.call (.builtin "sorted") [.ref a]) (fun v s' => ∃ y H2, Inv X pins σ H2 s' ∧ RelV y v ∧ Q y H2) X.xe s2 := by
  obtain ⟨o, ho, hex, hd⟩ := R.ob
  have hsz := R.size
  have hfew := R.few
  refine Calls.call_function_entry PyProof.Rows.kind_sorted PyProof.Rows.plain_sorted PyProof.Rows.entry_sorted (PyProof.Rows.args_sorted1 _) ?_
  unfold Builtin.«sorted»
  refine wpAny_bind (m := checkCount "sorted" 1 1 _) (wpAny_pure ?_)
  refine wpAny_bind (collect_set (A := X.A.in1) (I.ok.hd g.calm) ⟨o, ho, hex.1, hd⟩ R.fits (by unfold scanBound; omega) R.tab.ris R.led fun s1 vs k1 hz g1 o1 pm => ?_)
  have hes : es.toList.map (·.2) = L.map fun q => Value.ref q.1 := by
    rw [R.rows]
    unfold L2.rowsOf
    rw [List.map_map] <;> rfl
  rw [hes] at pm
  obtain ⟨L1, pL, hvs⟩ := perm_lift pm L rfl
  obtain ⟨xs, hxs⟩ : ∃ xs : List EI, xs = L1.map fun p => (p.2, p.1, Value.none) := ⟨_, rfl⟩
  have hvs : (xs.map fun x => Value.ref x.2.1) = vs := by rw [hvs, hxs, List.map_map]; rfl
  have hkF : KeysI X.K F xs := fun x hx => by
    rw [hxs] at hx
    obtain ⟨q, hq, rfl⟩ := List.mem_map.mp hx
    exact hk0 q (pL.mem_iff.mp hq)
  have hk : KeysI X.K H xs := fun x hx => Same.seqT w.sub (hkF x hx)
  have hkeys : xs.map (·.1) = L1.map (·.2) := by rw [hxs, List.map_map]; rfl
  have pk : (xs.map (·.1)).Perm (dedupT ks) := by rw [hkeys]; exact (pL.map _).trans pm0
  have htp : tupsI xs = (xs.map (·.1)).map pyI := by unfold tupsI; rw [List.map_map]; rfl
  obtain ⟨al0, so0, dp0, ln0⟩ := srtOk_of hs
  have hm : ∀ d, d ∈ tupsI xs ↔ d ∈ (dedupT ks).map pyI := fun d => by rw [htp]; exact (pk.map pyI).mem_iff
  have al : AllAlike (tupsI xs) := fun d hd d' hd' => al0 d ((hm d).mp hd) d' ((hm d').mp hd')
  have so : Sortable (tupsI xs) := by
    rcases so0 with so0 | so0
    · exact .inl fun d hd => so0 d ((hm d).mp hd)
    · exact .inr fun d hd => so0 d ((hm d).mp hd)
  have dp : ∀ d ∈ tupsI xs, d.depth ≤ 60 := fun d hd => dp0 d ((hm d).mp hd)
  have I1 : Inv X pins σ H s1 := I.call' (ch := []) o1 (Un.kept k1) (I.hok.kept k1) (by rw [g1]; exact I.bare) (fun _ z => nomatch z)
  have hlx : xs.length < 64 := by rw [hxs, List.length_map, pL.length_eq]; exact hfew
  have hlv : vs.length = xs.length := by rw [← hvs, List.length_map]
  have z1 : xs.length ≤ sizeLine := by rw [sizeLine_eq]; omega
  refine wpAny_bind (wpAny_newList ?_ (by rw [hlv]; exact z1))
  have hoL : (s1.heap.push (seqObj "list" vs.toArray 0)).get? s1.heap.objs.size = some (seqObj "list" vs.toArray 0) := Heap.get?_push_size _ rfl
  show wpAny _ _ _ _ _ { s1 with heap := s1.heap.push (seqObj "list" vs.toArray 0) }
  obtain ⟨r1, r2⟩ := zip_each (K := X.K) I1 (dp_keys hk) (vals_keys xs)
  rw [hvs] at r1 r2
  have hlen : (xs.map fun x => V.ref x.2.1).length = (tupsI xs).length := by unfold tupsI; rw [List.length_map, List.length_map]
  have hmap : ((xs.map fun x => V.ref x.2.1).zip (tupsI xs)).map (fun b : V × PyData => b.2) = tupsI xs := List.map_snd_zip (by omega)
  have old : ∀ b ob, s1.heap.get? b = some ob → (sortingHeap (s1.heap.push (seqObj "list" vs.toArray 0)) s1.heap.objs.size vs).get? b = some ob := fun b ob hb => sortingHeap_old (Nat.ne_of_lt (Heap.lt_size hb)) (Heap.get?_push_of_some _ hb)
  have er' : EachIs (fun v (b : V × PyData) => ∃ as, Reads (sortingHeap (s1.heap.push (seqObj "list" vs.toArray 0)) s1.heap.objs.size vs) v b.2 as) vs ((xs.map fun x => V.ref x.2.1).zip (tupsI xs)) := r2.mono fun _ _ ⟨as, r⟩ => ⟨as, PyProof.Rows.Reads.keeps old r⟩
  have hbl : ((xs.map fun x => V.ref x.2.1).zip (tupsI xs)).length = xs.length := by rw [List.length_zip, ← hlen, List.length_map, Nat.min_self]
  have huu := g.hu
  refine wpAny_bind (wpAny_holding (wpAny_call_entry PyProof.Rows.slot_list_sort ⟨_, hoL, rfl⟩ PyProof.Rows.entry_list_sort
    (list_sort_vals (s := { s1 with heap := s1.heap.push (seqObj "list" vs.toArray 0) }) (κ := dataKind (sortingHeap (s1.heap.push (seqObj "list" vs.toArray 0)) s1.heap.objs.size vs) (((xs.map fun x => V.ref x.2.1).zip (tupsI xs)).map fun b : V × PyData => b.2)) hoL
      (SortsAt.data (s := { s1 with heap := sortingHeap (s1.heap.push (seqObj "list" vs.toArray 0)) s1.heap.objs.size vs }) (each_map (R := fun v d => ∃ as, Reads (sortingHeap (s1.heap.push (seqObj "list" vs.toArray 0)) s1.heap.objs.size vs) v d as) (fun b : V × PyData => b.2) er') (by rw [hmap]; exact al) (by rw [hmap]; exact so) (by
        intro d hd
        rw [hmap] at hd
        have := dp d hd
        show X.A.units + 1 + 1 + d.depth < cLine
        omega)) (by rw [hlv]; exact z1) ⟨.none, rfl, ?_⟩) (PyProof.Rows.args_list_sort _)))
  have eo := sortVals_data (h' := sortingHeap (s1.heap.push (seqObj "list" vs.toArray 0)) s1.heap.objs.size vs) (enc := fun b : V × PyData => b.2) false r1 er' (by rw [hmap]; exact al)
  generalize hout : sortVals (dataKind (sortingHeap (s1.heap.push (seqObj "list" vs.toArray 0)) s1.heap.objs.size vs) (((xs.map fun x => V.ref x.2.1).zip (tupsI xs)).map fun b : V × PyData => b.2)) false vs vs = out at eo
  obtain ⟨e', he'⟩ := PyProof.Rows.sortedHeap_at (vs := vs) (out := out.toArray) hoL
  have hfr : H s1.heap.objs.size = none := I1.hok.fresh (Nat.le_refl _)
  have rds : RDs X.K α F ((srtI (dedupT ks)).map encI) (srtL (xs.map fun x => V.ref x.2.1) (tupsI xs)) := by
    have r0 : RDs X.K α F ((xs.map (·.1)).map encI) (xs.map fun x => V.ref x.2.1) := by
      have : ∀ ys : List EI, KeysI X.K F ys → RDs X.K α F ((ys.map (·.1)).map encI) (ys.map fun x => V.ref x.2.1) := by
        intro ys
        induction ys with
        | nil => intro _; exact .nil
        | cons y r ih => intro hy; exact .cons (.tup (hy y List.mem_cons_self) (RDs.ints _)) (ih fun z hz => hy z (List.mem_cons_of_mem _ hz))
      exact this xs hkF
    have r3 := r0.srt (tupsI xs)
    rw [htp, srtL_I] at r3
    rw [htp]
    have : srtI (xs.map (·.1)) = srtI (dedupT ks) := srtI_of ((srtI_perm _).trans pk.symm) (srtI_sorted _)
    rw [this] at r3
    exact r3
  refine wpAny_pure ⟨_, rfl, .ref s1.heap.objs.size, upd H s1.heap.objs.size (.lst (srtL (xs.map fun x => V.ref x.2.1) (tupsI xs))), I1.laid (t' := s1.toks) (fun b u e => ?_) (Nat.le_refl _)
    (show ObjOk X.prog X.w _ _ _ (.lst _) from ⟨?_, out, e', each_vals eo, he'⟩), rfl, (RP.mkL w rds p).2 _ hfr⟩
  · have hb : b < s1.heap.objs.size := Heap.lt_size e
    rw [PyProof.Rows.sortedHeap_old (Nat.ne_of_lt hb) (by rw [size_push']; exact Nat.lt_succ_of_lt hb)]
    exact Heap.get?_push_of_some _ e
  · unfold srtL
    rw [List.length_map, List.length_mergeSort, hbl]
    exact z1
theorem setOf_eq {es : List Expr} {a : Expr} (e : setOf es = some a) : ∃ p pos, es = [.Call (.Name "set" p) [a] [] pos] := by
  unfold setOf at e
  split at e
  · split at e
    · rename_i h
      cases e
      subst h
      exact ⟨_, _, rfl⟩
    · cases e
  · cases e
theorem pe_set (g : Gd τ G call X c k W) (ih : ∀ e, PE X e (tE τ X.K X.mg W (S.e c e))) (x : Str) {a : Expr} {es : List Expr} (p pos : Pos) (he : setOf es = some a) : PE X (.Call (.Name x p) es [] pos) (tE τ X.K X.mg W (setC G S c x a pos)) := by
  obtain ⟨p2, pos2, rfl⟩ := setOf_eq he
  refine ⟨fun pins s σ H Q I h => ?_⟩
  obtain ⟨α, F, hp, sl, at_, q⟩ := h
  unfold setC at q
  split at q
  · rename_i hb
    simp only [Bool.and_eq_true, Bool.not_eq_true'] at hb
    obtain ⟨h1, h2⟩ := isBlt_ok g hb.1.1
    obtain ⟨h3, h4⟩ := isBlt_ok g hb.1.2
    have na : starEach [a] X.env = (false, eval a X.env) :: starEach [] X.env := starEach_cons hb.2
    split at q
    · rename_i hx
      subst hx
      refine Call_ (ld_blt I h1 h2 boot_len ?_)
      refine PyProof.Rows.callWith_builtin1 (PyProof.Rows.args_cons ?_ rfl) rfl rfl
      refine Call_ (ld_blt I h3 h4 boot_set ?_)
      refine PyProof.Rows.callWith_type1 (PyProof.Rows.args_cons (thn ((ih a).run pins s σ H (fun v H1 => ∃ α1 F1 h1 d, At τ X.K α1 F1 H1 h1 sl σ ∧ RD X.K α1 F1 d v ∧ RP τ X.K X.mg (fun c d H => W c d σ H) (RD X.K) α1 F1 H1 (lenSet d h1) Q) I (RP.seq (rel := RD X.K) (f := S.e c a) at_ q fun α' F' H' h' e u x' a' r' p2 => ⟨α', F', h', e, a', r', p2⟩)) fun v s1 ⟨x, H1, I1, r1, α1, F1, h1, d, a1, rd, p2⟩ => PyProof.Rows.args_nil ?_) na) na rfl
      unfold lenSet at p2
      split at p2
      · rename_i is e
        split at p2
        · rename_i few
          refine set_then g I1 a1.1 rd r1 e few fun h' tk R hk => ?_
          refine PyProof.Rows.args_nil ?_
          obtain ⟨o, es, ep, t, ho, hex, hd, _, _, _, hb2, hf, hn, _, _⟩ := R
          have I2 : Inv X pins σ H1 { s1 with heap := h', toks := tk } := I1.kept hk
          exact call_len_set ho hex hd hf (by unfold scanBound at hb2; omega) ⟨.int (dedupI is).length, H1, I2.tok _, ⟨_, by rw [hn]⟩, p2.ok a1.1 (.int _)⟩
        · exact p2.elim
      · exact p2.elim
    · split at q
      · rename_i hx
        subst hx
        refine Call_ (ld_blt I h1 h2 boot_sorted ?_)
        refine PyProof.Rows.callWith_builtin1 (PyProof.Rows.args_cons ?_ rfl) rfl rfl
        refine Call_ (ld_blt I h3 h4 boot_set ?_)
        refine PyProof.Rows.callWith_type1 (PyProof.Rows.args_cons (thn ((ih a).run pins s σ H (fun v H1 => ∃ α1 F1 h1 d, At τ X.K α1 F1 H1 h1 sl σ ∧ RD X.K α1 F1 d v ∧ RP τ X.K X.mg (fun c d H => W c d σ H) (RD X.K) α1 F1 H1 (sortSet (G.isLoc pos) d h1) Q) I (RP.seq (rel := RD X.K) (f := S.e c a) at_ q fun α' F' H' h' e u x' a' r' p2 => ⟨α', F', h', e, a', r', p2⟩)) fun v s1 ⟨x, H1, I1, r1, α1, F1, h1, d, a1, rd, p2⟩ => PyProof.Rows.args_nil ?_) na) na rfl
        unfold sortSet at p2
        split at p2
        · rename_i is e
          split at p2
          · rename_i few
            refine set_then g I1 a1.1 rd r1 e few.1 fun h' tk R hk => ?_
            refine PyProof.Rows.args_nil ?_
            exact sorted_then g (show Inv X pins σ H1 { s1 with heap := h', toks := tk } from I1.kept hk) a1.1 R few.2 p2
          · exact p2.elim
        · unfold sortSetT at p2
          split at p2
          · rename_i ks e
            split at p2
            · rename_i few
              refine set_thenT g I1 a1.1 rd r1 e few.1 fun h' tk L es ep t R pm hkF hk => ?_
              refine PyProof.Rows.args_nil ?_
              exact sorted_thenT g (show Inv X pins σ H1 { s1 with heap := h', toks := tk } from I1.kept hk) a1.1 R pm hkF few.2 p2
            · exact p2.elim
          · exact p2.elim
      · exact q.elim
  · exact q.elim
end
end Bk

/-! BkRgv: list(range(n)), xs[::-1]. -/
namespace Bk
open PySem PySem.Spec PyProof.Rows L2
section
variable {G : Cfg} {call : Str → List D → Hs → Res D} {X : Cx} {c : Ctx} {k : Nat} {W : WX} {S : Sm}
theorem rngOf_eq {es : List Expr} {a : Expr} (e : rngOf es = some a) : ∃ p pos, es = [.Call (.Name "range" p) [a] [] pos] := by
  unfold rngOf at e
  split at e
  · split at e
    · rename_i h
      cases e
      subst h
      exact ⟨_, _, rfl⟩
    · cases e
  · cases e
theorem pe_rng (g : Gd τ G call X c k W) (ih : ∀ e, PE X e (tE τ X.K X.mg W (S.e c e))) (x : Str) {a : Expr} {es : List Expr} (p pos : Pos) (he : rngOf es = some a) : PE X (.Call (.Name x p) es [] pos) (tE τ X.K X.mg W (rngC G S c x a pos)) := by
  obtain ⟨p2, pos2, rfl⟩ := rngOf_eq he
  by_cases hb : (isBlt G c x && isBlt G c "range" && !isStar a) = true
  · by_cases hx : x = "list"
    · subst hx
      have e0 : rngC G S c "list" a pos = fun s h => (S.e c a s h).bind (rngD (G.isLoc pos)) := by
        funext s h
        unfold rngC
        rw [if_pos hb, if_pos rfl]
      rw [e0]
      simp only [Bool.and_eq_true, Bool.not_eq_true'] at hb
      obtain ⟨h1, h2⟩ := isBlt_ok g hb.1.1
      obtain ⟨h3, h4⟩ := isBlt_ok g hb.1.2
      refine (pe_listRg g.calm h1 h2 (prg_1 h3 h4 (ih a) (starEach_cons hb.2)) rfl).imp fun σ H Q p => ?_
      refine tR.seq (g := fun _ => rngD (G.isLoc pos)) p fun α F H h s d x a r p => ?_
      unfold rngD at p
      split at p
      · rename_i n
        split at p
        · rename_i hn
          cases r
          refine ⟨n, rfl, ⟨by omega, by omega, by omega, by omega, by omega⟩, ?_⟩
          have ei : (List.range n.toNat).map (fun i : Nat => D.int (i : Int)) = ((List.range n.toNat).map fun i : Nat => (i : Int)).map D.int := by rw [List.map_map]; rfl
          have ev : rgV 0 n = ((List.range n.toNat).map fun i : Nat => (i : Int)).map V.int := by
            unfold rgV
            rw [Int.sub_zero, List.map_map]
            refine List.map_congr_left fun i _ => ?_
            show V.int (0 + (i : Int)) = V.int (i : Int)
            rw [Int.zero_add]
          rw [ei] at p
          rw [ev]
          exact (RP.mkL a.1 (RDs.ints _) p).2
        · exact p.elim
      · exact p.elim
    · refine .no fun σ H Q => tR_bad fun s h => ?_
      unfold rngC
      rw [if_pos hb, if_neg hx]
  · refine .no fun σ H Q => tR_bad fun s h => ?_
    unfold rngC
    rw [if_neg hb]
theorem pe_rev (g : Gd τ G call X c k W) {a st : Expr} {p2 pos : Pos} {fa : Sl → Hs → Res D} (l : Bool) (hs : isM1 st = true) (ha : PE X a (tE τ X.K X.mg W fa)) : PE X (.Subscript a (.Slice none none (some st) p2) pos) (tE τ X.K X.mg W fun s h => (fa s h).bind (revD l)) := by
  unfold isM1 at hs
  split at hs
  · refine (pe_revL ha).imp fun σ H Q p => ?_
    refine tR.seq (g := fun _ => revD l) p fun α F H h s d x a r p => ?_
    unfold revD at p
    split at p
    · rename_i xs hx
      obtain ⟨b, vs, rfl, f, q⟩ := items_of a.1 r hx
      exact ⟨b, vs, rfl, f, (RP.mkL a.1 q.reverse p).2⟩
    · exact p.elim
  · cases hs
/-! ### sorted(.., reverse=True) -/
theorem srtP_perm (L : List (Int × Int)) : (srtP L).Perm L := List.mergeSort_perm ..
theorem lexP_iff {p q : Int × Int} : lexP p q = true ↔ p.1 < q.1 ∨ p.1 = q.1 ∧ p.2 ≤ q.2 := by unfold lexP; rw [decide_eq_true_eq]
theorem srtP_sorted (L : List (Int × Int)) : (srtP L).Pairwise (fun p q => lexP p q = true) := by
  refine List.pairwise_mergeSort (le := lexP) (fun a b c h1 h2 => ?_) (fun a b => ?_) L
  · rw [lexP_iff] at h1 h2 ⊢; omega
  · rw [Bool.or_eq_true, lexP_iff, lexP_iff]; omega
theorem srtP_of {A B : List (Int × Int)} (p : B.Perm A) (h : B.Pairwise (fun p q => lexP p q = true)) : srtP A = B :=
  ((srtP_perm A).trans p.symm).eq_of_pairwise (fun x y _ _ h1 h2 => by
    rw [lexP_iff] at h1 h2
    exact Prod.ext (by omega) (by omega)) (srtP_sorted A) h
theorem prs_of {K : PySem.W.Frag} {α : Al} {F : Hp} : ∀ {ds : List D} {xs : List V} {ks : List (Int × Int)}, RDs K α F ds xs → D.prs ds = some ks → ds = ks.map encP ∧ ks.length = xs.length
  | _, _, ks, .nil, e => by
    cases e
    exact ⟨rfl, rfl⟩
  | _, _, ks, .cons r q, e => by
    unfold D.prs at e
    split at e
    · rename_i h; cases h
    · rename_i a b r' h
      cases h
      obtain ⟨ks', e1, rfl⟩ := Option.map_eq_some_iff.mp e
      obtain ⟨e2, e3⟩ := prs_of q e1
      exact ⟨by rw [List.map_cons, ← e2]; rfl, by simp [e3]⟩
    · cases e
theorem rds_map {K : PySem.W.Frag} {α : Al} {F : Hp} {T : Type} {f : T → D} {f' : T → V} : ∀ {l : List T}, (∀ t ∈ l, RD K α F (f t) (f' t)) → RDs K α F (l.map f) (l.map f')
  | [], _ => .nil
  | t :: l, h => .cons (h t List.mem_cons_self) (rds_map fun x hx => h x (List.mem_cons_of_mem _ hx))
def rRev (τ : List Addr) (K : PySem.W.Frag) (mg : Str → Option Value) (l : Bool) : List V → List V → Hp → VK → Prop :=
  fun vs zs H Q => ∃ E α F h d, Wd τ K α F H h ∧ RDs K α F [d] vs ∧ zs = [.bl true] ∧ RP τ K mg E (RD K) α F H (sortRev l d h) Q
theorem isPair_uniq {h : Heap} {v : Value} {a b c d : Int} (p : Srt.IsPair h v a b) (q : Srt.IsPair h v c d) : a = c ∧ b = d := by
  obtain ⟨x, o, t, u, n, rfl, ho, hc, hd⟩ := p
  obtain ⟨x', o', t', u', n', e, ho', hc', hd'⟩ := q
  cases e
  rw [ho] at ho'
  cases ho'
  rw [hd] at hd'
  injection hd' with e1 e2
  simp at e1
  exact ⟨e1.1.1, e1.2.1⟩
theorem cr_rev {K : PySem.W.Frag} {mg : Str → Option Value} {X : Cx} (hK : X.K = K) (l : Bool) : CallRK X (.builtin "sorted") [Str.ofString "reverse"] (rRev τ K mg l) := by
  subst hK
  intro pins s σ H vs zs us ws Q I r rz hq
  obtain ⟨E, α, F, h, d, w, rd, rfl, p⟩ := hq
  unfold sortRev at p
  split at p
  · rename_i ks e
    obtain ⟨ds, e1, e2⟩ := Option.bind_eq_some_iff.mp e
    cases rd with
    | cons rx rn =>
      cases rn
      obtain ⟨a, xs, rfl, hs, q⟩ := items_of w rx e1
      obtain rfl := Vals.ref1 r
      obtain ⟨w1, rfl, e3⟩ := vals1 rz
      obtain rfl : w1 = Value.bool true := e3
      obtain ⟨its, rv, hl, hz⟩ := I.list hs
      obtain ⟨ed, el⟩ := prs_of q e2
      subst ed
      have hlen : its.length = ks.length := by rw [el, ← rv.length]
      -- each value is a pair
      have each : ∀ i (hi : i < its.length), Srt.IsPair s.heap its[i] (ks[i]'(by omega)).1 (ks[i]'(by omega)).2 ∧ ∃ v, xs[i]? = some v ∧ RelV v its[i] ∧ RD X.K α F (encP (ks[i]'(by omega))) v := fun i hi => by
        have hk : i < ks.length := by omega
        obtain ⟨v, e4, r4⟩ := q.get (i := i) (d := encP ks[i]) (by rw [List.getElem?_map, List.getElem?_eq_getElem hk]; rfl)
        obtain ⟨u, e5, r5⟩ := rv.get e4
        rw [List.getElem?_eq_getElem hi] at e5
        cases e5
        refine ⟨?_, v, e4, r5, r4⟩
        cases r4 with
        | tup f q2 =>
          obtain ⟨its2, rv2, hl2, _⟩ := I.tuple (Same.seqT w.sub f)
          cases q2 with
          | cons qa qr => cases qr with
            | cons qb qr2 =>
              cases qr2
              cases qa
              cases qb
              obtain ⟨u1, u2, rfl, ri, rj⟩ := vals2 rv2
              obtain ⟨t1, rfl⟩ := ri
              obtain ⟨t2, rfl⟩ := rj
              obtain ⟨o, ho, hc, n, hd⟩ := hl2
              exact ⟨_, o, t1, t2, n, r5, ho, hc, hd⟩
      obtain ⟨k, hkd⟩ : ∃ k : Value → Int × Int, ∀ v ∈ its, Srt.IsPair s.heap v (k v).1 (k v).2 := by
        classical
        refine ⟨fun v => if hh : ∃ p : Int × Int, Srt.IsPair s.heap v p.1 p.2 then Classical.choose hh else (0, 0), fun v hv => ?_⟩
        obtain ⟨i, hi, rfl⟩ := List.getElem_of_mem hv
        have hh : ∃ p : Int × Int, Srt.IsPair s.heap its[i] p.1 p.2 := ⟨_, (each i hi).1⟩
        simp only [dif_pos hh]
        exact Classical.choose_spec hh
      have hkk : ∀ i (hi : i < its.length), k its[i] = ks[i]'(by omega) := fun i hi => by
        obtain ⟨u1, u2⟩ := isPair_uniq (hkd _ (List.getElem_mem hi)) (each i hi).1
        exact Prod.ext u1 u2
      have hmap : its.map k = ks := by
        refine List.ext_getElem (by rw [List.length_map, hlen]) fun i h1 h2 => ?_
        rw [List.length_map] at h1
        rw [List.getElem_map, hkk i h1]
      have back : ∀ v ∈ its, ∃ t, v = Value.ref t := fun v hv => by
        obtain ⟨t, _, _, _, _, e, _⟩ := hkd v hv
        exact ⟨t, e⟩
      have rdv : ∀ v ∈ its, RD X.K α F (encP (k v)) (backV v) := fun v hv => by
        obtain ⟨i, hi, rfl⟩ := List.getElem_of_mem hv
        obtain ⟨_, x, _, r5, r6⟩ := each i hi
        obtain ⟨t, et⟩ := back _ (List.getElem_mem hi)
        rw [hkk i hi]
        rw [et] at r5 ⊢
        cases r6 with
        | tup f q2 =>
          have e9 := (show Value.ref t = Value.ref _ from r5)
          injection e9 with e9
          subst e9
          exact .tup f q2
      refine SrtR.sorted_ordK (b := true) (kw := [(Str.ofString "reverse", .bool true)]) (ltv := fun v u => SrtO.lexB (k v) (k u)) (fun _ => rfl) (PyProof.Rows.args_sorted_rev _ _) (fun _ => PyProof.Rows.args_list_sort_rev _ _) (SrtO.swo_lex k) hl.isList (by rw [← rv.length]; exact hz)
        (fun h2 h₁ a' hob keep => SrtO.pairs_sortableO (by omega) (fun v hv => (hkd v hv).keeps fun b o e _ => (keep b o e).2) fun o e => by
          rw [hob] at e
          cases e
          exact fun z => by
            injection z with z3
            exact absurd z3 (by decide)) fun out h1 h2 => ?_
      have h2p : out.Perm its := h2.perm.trans (List.reverse_perm _)
      have hmem : ∀ v ∈ out, v ∈ its := fun v hv => h2p.mem_iff.mp hv
      have hsk : srtP ks = out.map k := by
        refine srtP_of (by rw [← hmap]; exact h2p.map k) ?_
        rw [List.pairwise_map]
        refine List.Pairwise.imp ?_ h1
        intro x y hxy
        have := SrtO.lexB_no.mp hxy
        rw [lexP_iff]
        omega
      have rz2 : RDs X.K α F ((srtP ks).reverse.map encP) (out.reverse.map backV) := by
        rw [hsk, ← List.map_reverse, List.map_map]
        exact rds_map (f := fun v => encP (k v)) fun v hv => rdv v (hmem v (List.mem_reverse.mp hv))
      obtain ⟨ep, he'⟩ := PyProof.Rows.sortedAll_at s.heap its (if true = true then out.toArray.reverse else out.toArray)
      have hl2 : (out.reverse.map backV).length ≤ sizeLine := by
        rw [List.length_map, List.length_reverse, h2p.length_eq, ← rv.length]
        exact hz
      exact ⟨.ref _, upd H (s.heap.objs.size + 1) (.lst (out.reverse.map backV)), I.laid (t' := s.toks) (fun _ _ => PyProof.Rows.sortedAll_old) (Nat.le_succ _) ⟨hl2, out.reverse, ep, vals_back fun u hu => back u (hmem u (List.mem_reverse.mp hu)), by
        rw [show out.reverse.toArray = (if true = true then out.toArray.reverse else out.toArray) by simp]
        exact he'⟩, rfl, (RP.mkL w rz2 p).2 _ (I.hok.fresh (Nat.le_succ _))⟩
  · exact p.elim
theorem pe_srev (g : Gd τ G call X c k W) (ih : ∀ e, PE X e (tE τ X.K X.mg W (S.e c e))) (x : Str) (es : List Expr) (kw : Keyword) (p pos : Pos) : PE X (.Call (.Name x p) es [kw] pos) (tE τ X.K X.mg W (revC G S c x es kw pos)) := by
  match es with
  | [] => exact .no fun σ H Q => tR_bad fun s h => rfl
  | _ :: _ :: _ => exact .no fun σ H Q => tR_bad fun s h => rfl
  | [a] =>
    by_cases hb : (isBlt G c x && decide (x = "sorted") && decide (kw.arg = some ("reverse" : Str)) && isTru kw.value && !isStar a) = true
    · have e0 : revC G S c x [a] kw pos = fun s h => (S.e c a s h).bind (sortRev (G.isLoc pos)) := by
        funext s h
        unfold revC
        simp only [hb, if_true]
      rw [e0]
      simp only [Bool.and_eq_true, Bool.not_eq_true', decide_eq_true_eq] at hb
      obtain ⟨⟨⟨⟨hb1, rfl⟩, hb2⟩, hb3⟩, hb4⟩ := hb
      obtain ⟨h1, h2⟩ := isBlt_ok g hb1
      obtain ⟨nm, e, kp⟩ := kw
      simp only at hb2 hb3
      subst hb2
      unfold isTru at hb3
      split at hb3
      · refine (pe_callBK (cr_rev (τ := τ) (mg := X.mg) rfl (G.isLoc pos)) h1 h2 boot_sorted (pa_cons (ih a) pa_nil (starEach_cons hb4)) (pk_cons pe_bl pk_nil) (he := by rw [starEach_cons hb4]; rfl) (hpl := by rw [starEach_cons hb4]; rfl)).imp fun σ H Q p => ?_
        exact tR.seq (g := fun _ => sortRev (G.isLoc pos)) p fun α F H h s d x a r p => ⟨_, _, _, _, _, a.1, .cons r .nil, rfl, p⟩
      · cases hb3
    · refine .no fun σ H Q => tR_bad fun s h => ?_
      unfold revC
      simp only [hb]
      rfl
end
end Bk

/-! BkStmt: statements and blocks. -/
namespace Bk
open PySem PySem.Spec PyProof.Rows L2
section
variable (τ : List Addr) (K : PySem.W.Frag) (mg : Str → Option Value)
def OP (W : WX) (α : Al) (F H : Hp) (o : Out) (D : Ends) : Prop := match o with
  | .next s' h' => ∀ (α' : Al) (F' H' : Hp) (σ' : St), Ext α F H α' F' H' → At τ K α' F' H' h' s' σ' → D.nx σ' H'
  | .ret d h' => ∀ (α' : Al) (F' H' : Hp) (v : V), Ext α F H α' F' H' → Wd τ K α' F' H' h' → RD K α' F' d v → D.rt v H'
  | .brk s' h' => ∀ (α' : Al) (F' H' : Hp) (σ' : St), Ext α F H α' F' H' → At τ K α' F' H' h' s' σ' → D.bk σ' H'
  | .cont s' h' => ∀ (α' : Al) (F' H' : Hp) (σ' : St), Ext α F H α' F' H' → At τ K α' F' H' h' s' σ' → D.ct σ' H'
  | .exc e s' h' => ∀ (α' : Al) (F' H' : Hp) (σ' : St) (cls : Value) (dd : Option Addr), Ext α F H α' F' H' → At τ K α' F' H' h' s' σ' → RX mg F' e cls dd → W cls dd σ' H'
  | .bad => False
def tS (W : WX) (f : Sl → Hs → Out) : TS := fun D σ H => ∃ α F h s, At τ K α F H h s σ ∧ OP τ K mg W α F H (f s h) D
end
section
variable {K : PySem.W.Frag} {mg : Str → Option Value} {α α' : Al} {F F' H H' : Hp} {h h' : Hs} {s : Sl} {σ : St} {W : WX}
theorem OP.ext {o : Out} {D : Ends} (x : Ext α F H α' F' H') (p : OP τ K mg W α F H o D) : OP τ K mg W α' F' H' o D := by
  cases o with
  | next s' h' => exact fun _ _ _ σ' y a => p _ _ _ σ' (x.trans y) a
  | ret d h' => exact fun _ _ _ v y w r => p _ _ _ v (x.trans y) w r
  | brk s' h' => exact fun _ _ _ σ' y a => p _ _ _ σ' (x.trans y) a
  | cont s' h' => exact fun _ _ _ σ' y a => p _ _ _ σ' (x.trans y) a
  | exc e s' h' => exact fun _ _ _ σ' c d y a r => p _ _ _ σ' c d (x.trans y) a r
  | bad => exact p
theorem OP.next {s' : Sl} {σ' : St} {D : Ends} (a : At τ K α F H h s' σ') (p : OP τ K mg W α F H (.next s' h) D) : D.nx σ' H := p α F H σ' Ext.refl a
theorem tS_bad {f : Sl → Hs → Out} (e : ∀ s h, f s h = .bad) {D : Ends} {H : Hp} : ¬ tS τ K mg W f D σ H := by
  rintro ⟨α, F, h, s, _, p⟩
  rw [e] at p
  exact p
/-- an answer, then the rest -/
theorem OP.out {A B : Type} {rel : Al → Hp → A → B → Prop} {r : Res A} {f : A → Hs → Out} {D : Ends} (a : At τ K α F H h s σ) (p : OP τ K mg W α F H (r.out s f) D) :
    RP τ K mg (fun c d H => W c d σ H) rel α F H r (fun b H1 => ∃ α1 F1 h1 d, Ext α F H α1 F1 H1 ∧ At τ K α1 F1 H1 h1 s σ ∧ rel α1 F1 d b ∧ OP τ K mg W α1 F1 H1 (f d h1) D) := by
  cases r with
  | ok d h' => exact fun α1 F1 H1 b x w q => ⟨α1, F1, h', d, x, a.ext x w, q, p.ext x⟩
  | exc e h' => exact fun α1 F1 H1 c d x w q => p α1 F1 H1 σ c d x (a.ext x w) q
  | bad => exact p
theorem tS.out {A B : Type} {rel : Al → Hp → A → B → Prop} {f : Sl → Hs → Res A} {k : Sl → A → Hs → Out} {D : Ends} {H : Hp} {Z : B → Hp → Prop} (p : tS τ K mg W (fun s h => (f s h).out s (k s)) D σ H)
    (i : ∀ α F H h s d b, At τ K α F H h s σ → rel α F d b → OP τ K mg W α F H (k s d h) D → Z b H) : tR τ K mg W rel f σ H Z := by
  obtain ⟨α, F, h, s, a, p⟩ := p
  exact RP.start a ((OP.out (rel := rel) a p).mono fun b H1 ⟨α1, F1, h1, d, x, a1, r, p1⟩ => i _ _ _ _ _ _ _ a1 r p1)
theorem OP.outAt {A B : Type} {rel : Al → Hp → A → B → Prop} {f : Sl → Hs → Res A} {k : A → Hs → Out} {D : Ends} {Z : B → Hp → Prop} (a : At τ K α F H h s σ) (p : OP τ K mg W α F H ((f s h).out s k) D)
    (i : ∀ α' F' H' h' d b, Ext α F H α' F' H' → At τ K α' F' H' h' s σ → rel α' F' d b → OP τ K mg W α' F' H' (k d h') D → Z b H') : tR τ K mg W rel f σ H Z :=
  RP.start a ((OP.out (rel := rel) a p).mono fun b H1 ⟨α1, F1, h1, d, x, a1, r, p1⟩ => i _ _ _ _ _ _ x a1 r p1)
end

section
variable {G : Cfg} {call : Str → List D → Hs → Res D} {X : Cx} {c : Ctx} {k : Nat} {W : WX} {S : Sm}
/-! ### blocks -/
theorem pss_block (g : Gd τ G call X c k W) {ex : Stmt → Sl → Hs → Out} (ih : ∀ st, PS X st (tS τ X.K X.mg W (ex st))) : ∀ sts : List Stmt, PSs X sts (tS τ X.K X.mg W (blockE ex sts))
  | [] => pss_nil.imp fun D σ H p => by
    obtain ⟨α, F, h, s, a, p⟩ := p
    exact p.next a
  | st :: r => by
    refine (pss_cons (ih st) (pss_block g ih r)).imp fun D σ H p => ?_
    obtain ⟨α, F, h, s, a, p⟩ := p
    refine ⟨α, F, h, s, a, ?_⟩
    have p : OP τ X.K X.mg W α F H ((ex st s h).seq (blockE ex r)) D := p
    revert p
    generalize ex st s h = o
    intro p
    cases o with
    | next s' h' => exact fun α' F' H' σ' x a' => ⟨α', F', h', s', a', p.ext x⟩
    | ret d h' => exact p
    | brk s' h' => exact p
    | cont s' h' => exact p
    | exc e s' h' => exact p
    | bad => exact p
theorem ps_return (g : Gd τ G call X c k W) {e : Expr} {pos : Pos} {f : Sl → Hs → Res D} (he : PE X e (tE τ X.K X.mg W f)) : PS X (.Return (some e) pos) (tS τ X.K X.mg W fun s h => (f s h).out s fun d h1 => .ret d h1) := by
  refine (ps_ret he).imp fun D σ H p => ?_
  exact tS.out (rel := RD X.K) p fun α F H h s d v a r p => p α F H v Ext.refl a.1 r
theorem ps_drop (g : Gd τ G call X c k W) {e : Expr} {pos : Pos} {f : Sl → Hs → Res D} (hc : isComp e = false) (he : PE X e (tE τ X.K X.mg W f)) : PS X (.Expr e pos) (tS τ X.K X.mg W fun s h => (f s h).out s fun _ h1 => .next s h1) := by
  refine (ps_expr he (by cases e <;> first | rfl | cases hc)).imp fun D σ H p => ?_
  exact tS.out (rel := RD X.K) p fun α F H h s d v a r p => p.next a
theorem ps_ifD (g : Gd τ G call X c k W) {t : Expr} {a b : List Stmt} {pos : Pos} {ft : Sl → Hs → Res Bool} {fa fb : Sl → Hs → Out} (ht : PT X t (tT τ X.K X.mg W ft)) (ha : PSs X a (tS τ X.K X.mg W fa)) (hb : PSs X b (tS τ X.K X.mg W fb)) :
    PS X (.If t a b pos) (tS τ X.K X.mg W fun s h => (ft s h).out s fun k h1 => if k then fa s h1 else fb s h1) := by
  refine (ps_if ht ha hb).imp fun D σ H p => ?_
  refine tS.out (rel := relB) p fun α F H h s d b a r p => ?_
  have r' : d = b := r
  subst r'
  cases d with
  | true => exact iteT ⟨α, F, h, s, a, by simpa using p⟩
  | false => exact iteF ⟨α, F, h, s, a, by simpa using p⟩
theorem augD_some {op : Operator} {a b d : D} (e : augD op a b = some d) : ∃ m n : Int, a = .int m ∧ b = .int n ∧ ((op = .Add ∧ d = .int (m + n)) ∨ (op = .Sub ∧ d = .int (m - n))) := by
  unfold augD at e
  split at e
  · split at e
    · cases e; exact ⟨_, _, rfl, rfl, .inl ⟨rfl, rfl⟩⟩
    · cases e; exact ⟨_, _, rfl, rfl, .inr ⟨rfl, rfl⟩⟩
    · cases e
  · cases e
/-- + and - of ints, in place -/
def ipAS (op : Operator) : TIp := fun x y H Q => ∃ m n : Int, x = .int m ∧ y = .int n ∧ ((op = .Add ∧ Q (.int (m + n)) H) ∨ (op = .Sub ∧ Q (.int (m - n)) H))
theorem ip_as {X : Cx} {op : Operator} : PIp X op (ipAS op) := by
  intro pins s σ H x y v u Q I rx ry ⟨m, n, e1, e2, q⟩
  rcases q with ⟨rfl, q⟩ | ⟨rfl, q⟩
  · exact ip_add pins s σ H x y v u Q I rx ry ⟨m, n, e1, e2, q⟩
  · exact ip_sub pins s σ H x y v u Q I rx ry ⟨m, n, e1, e2, q⟩
def ipEx (op : Operator) : TIp := fun x y H Q => ipAS op x y H Q ∨ (op = .Add ∧ rExt2 x y H Q)
theorem ip_ex {X : Cx} {op : Operator} : PIp X op (ipEx op) := by
  intro pins s σ H x y v u Q I rx ry q
  rcases q with q | ⟨rfl, q⟩
  · exact ip_as pins s σ H x y v u Q I rx ry q
  · exact iop_ext pins s σ H x y v u Q I rx ry q
theorem ps_augD (g : Gd τ G call X c k W) {x : Str} {px pos : Pos} {op : Operator} {e : Expr} {f : Sl → Hs → Res D} {i : Nat} (hs : stoN c x = true) (hn : nameAt c.nm x = some i) (he : PE X e (tE τ X.K X.mg W f)) :
    PS X (.AugAssign (.Name x px) op e pos) (tS τ X.K X.mg W fun s h => (lk s i h).out s fun a h1 => (f s h1).out s fun b h2 => match augD op a b with
        | some d => .next (s.set i (some d)) h2
        | none => (extR op a b h2).out s fun d h3 => .next (s.set i (some d)) h3) := by
  refine (ps_aug (by rw [g.nm]; exact g.nd) (g.at_ hn) (g.loc hs) he ip_ex (by rw [g.sc]; exact g.fn x hs)).imp fun D σ H p => ?_
  obtain ⟨α, F, h, s, a, p⟩ := p
  unfold lk at p
  cases hd : s[i]? with
  | none => simp only [hd] at p; exact p.elim
  | some o =>
    cases o with
    | none => simp only [hd] at p; exact p.elim
    | some d =>
      obtain ⟨v, e1, rd⟩ := a.2.2 i d hd
      simp only [hd, Res.out_ok] at p
      refine ⟨v, e1, ?_⟩
      refine OP.outAt (rel := RD X.K) (f := f) a p fun α' F' H' h' e' y x' a' r p => ?_
      split at p
      · rename_i z hz
        obtain ⟨m, n, rfl, rfl, q⟩ := augD_some hz
        cases rd
        cases r
        refine .inl ⟨m, n, rfl, rfl, ?_⟩
        rcases q with ⟨rfl, rfl⟩ | ⟨rfl, rfl⟩
        · exact .inl ⟨rfl, p.next ⟨a'.1, a'.2.set (.int _)⟩⟩
        · exact .inr ⟨rfl, p.next ⟨a'.1, a'.2.set (.int _)⟩⟩
      · have rd := x'.rd rd
        unfold extR at p
        split at p
        · rename_i l k
          split at p
          · rename_i xs ys h1 h2
            split at p
            · rename_i hsz
              cases rd with
              | loc gg =>
                obtain ⟨vs, e3, rs⟩ := cur_live a'.1 gg h1
                obtain ⟨b', ws, rfl, hb, rs2⟩ := own_of a'.1 r h2
                refine .inr ⟨rfl, _, _, vs, ws, rfl, rfl, e3, hb, by rw [← rs.length, ← rs2.length]; exact hsz, ?_⟩
                unfold wr at p
                split at p
                · rename_i hok
                  obtain ⟨w', x''⟩ := a'.1.write (cur_iff.mp h1) (fun z => by cases z) gg (.lst (rs.append rs2)) hok
                  exact (p.ext x'').next ⟨w', (a'.2.mono x'').set ((RD.loc gg).mono x''.look x''.sub)⟩
                · exact p.elim
            · exact p.elim
          · exact p.elim
        · exact p.elim

/-! x[i] op= e -/
theorem get_list {X : Cx} : PGet X (rIxL X.K) := by
  intro pins s σ H x y v u Q I rx ry h
  obtain ⟨p, xs, i, z, rfl, rfl, hq, he, q⟩ := h
  cases rx
  obtain ⟨t, rfl⟩ := ry
  obtain ⟨its, r, pl, hz⟩ := I.list hq
  obtain ⟨j, h1, h2, h3, h4, h5⟩ := atI_get he
  obtain ⟨w, ew, rw'⟩ := r.get h2
  have hl := r.length
  have hn := line63
  have fin : EP X pins σ Q w s := ⟨z, H, I, rw', q⟩
  by_cases h0 : 0 ≤ i
  · have hj : i.toNat = j := by
      rw [seqIndex_of h0 h5] at h1
      exact Option.some.inj h1
    exact PySem.wpAny_getItem_list pl.isList h0 (by omega) (by rw [hj]; simpa using ew) fin
  · have hj : (i + (its.toArray.size : Int)).toNat = j := by
      rw [seqIndex_neg (by omega) h4] at h1
      rw [List.size_toArray, ← hl]
      exact Option.some.inj h1
    exact PySem.wpAny_getItem_list_neg pl.isList (by omega) (by rw [List.size_toArray] <;> omega) (by omega) (by rw [hj]; simpa using ew) fin
theorem ixL_or (x y : D) (h : Hs) : ixL x y h = .bad ∨ ∃ (l k : Nat) (i : Int) (xs : List D) (z : D), x = .loc l k ∧ y = .int i ∧ cur h l k = some xs ∧ atI xs i = some z ∧ ixL x y h = .ok z h := by
  cases x with
  | loc l k =>
    cases y with
    | int i =>
      cases e : (cur h l k).bind fun xs => atI xs i with
      | none => exact .inl (by unfold ixL; simp only [e])
      | some z =>
        obtain ⟨xs, e1, e2⟩ := Option.bind_eq_some_iff.mp e
        exact .inr ⟨l, k, i, xs, z, rfl, rfl, e1, e2, by unfold ixL; simp only [e]⟩
    | _ => exact .inl rfl
  | _ => exact .inl (by cases y <;> rfl)
theorem ps_augIx (g : Gd τ G call X c k W) {o i e : Expr} {tp pos : Pos} {op : Operator} {fo fi fe : Sl → Hs → Res D} (hs : isSlice i = false) (ho : PE X o (tE τ X.K X.mg W fo)) (hi : PE X i (tE τ X.K X.mg W fi)) (he : PE X e (tE τ X.K X.mg W fe)) :
    PS X (.AugAssign (.Subscript o i tp) op e pos) (tS τ X.K X.mg W fun s h => (fo s h).out s fun x h1 => (fi s h1).out s fun y h2 => (ixL x y h2).out s fun a h3 => (fe s h3).out s fun b h4 => match augD op a b with
        | some d => (setD x y d h4).out s fun _ h5 => .next s h5
        | none => .bad) := by
  refine (ps_augS ho hi get_list he ip_as (set_D (τ := τ) (mg := X.mg) rfl) (fun ov iv new => by cases i <;> first | rfl | cases hs)).imp fun D σ H p => ?_
  obtain ⟨α, F, h, s, a, p⟩ := p
  refine OP.outAt (rel := RD X.K) (f := fo) a p fun α1 F1 H1 h1 d v x1 a1 r1 p => ?_
  refine OP.outAt (rel := RD X.K) (f := fi) a1 p fun α2 F2 H2 h2 e' w x2 a2 r2 p => ?_
  have r1 := x2.rd r1
  rcases ixL_or d e' h2 with hb | ⟨l, kk, ii, xs, z, rfl, rfl, e1, e2, eo⟩
  · rw [hb] at p
    exact p.elim
  · rw [eo] at p
    have r1' := r1
    cases r2
    cases r1 with
    | loc gg =>
      obtain ⟨vs, e3, rs⟩ := cur_live a2.1 gg e1
      obtain ⟨j, hj, hv⟩ := Option.bind_eq_some_iff.mp e2
      obtain ⟨zv, hzv, rz⟩ := rs.get hv
      simp only [Res.out_ok] at p
      refine ⟨_, vs, ii, zv, rfl, rfl, .inl (.inl e3), ?_, ?_⟩
      · show (ixN vs.length ii).bind _ = _
        rw [← rs.length, hj]
        exact hzv
      · refine OP.outAt (rel := RD X.K) (f := fe) a2 p fun α3 F3 H3 h3 b y x3 a3 r3 p3 => ?_
        cases hnd : augD op z b with
        | none => rw [hnd] at p3; exact p3.elim
        | some nd =>
          rw [hnd] at p3
          obtain ⟨m, n, rfl, rfl, q⟩ := augD_some hnd
          cases r3
          cases rz
          refine ⟨m, n, rfl, rfl, ?_⟩
          have fin : RP τ X.K X.mg (fun c d H => W c d σ H) (RD X.K) α3 F3 H3 (setD (.loc l kk) (.int ii) nd h3) (fun _ H' => D.nx σ H') := (OP.out (rel := RD X.K) a3 p3).mono fun _ H' ⟨α4, F4, h4, _, x4, a4, _, p4⟩ => p4.next a4
          rcases q with ⟨rfl, rfl⟩ | ⟨rfl, rfl⟩
          · exact .inl ⟨rfl, _, _, _, _, _, _, _, a3.1, x3.rd r1', .int _, .int _, fin⟩
          · exact .inr ⟨rfl, _, _, _, _, _, _, _, a3.1, x3.rd r1', .int _, .int _, fin⟩
/-! ### loops -/
theorem ps_whileD (g : Gd τ G call X c k W) {t : Expr} {b : List Stmt} {pos : Pos} {ft : Sl → Hs → Res Bool} {fb : Sl → Hs → Out} (cl : List Nat) (n : Nat) (ht : PT X t (tT τ X.K X.mg W ft)) (hb : PSs X b (tS τ X.K X.mg W fb)) :
    PS X (.While t b [] pos) (tS τ X.K X.mg W (whileL ft fb cl n)) := by
  refine (ps_while g.po ht hb).imp fun D σ H p => ?_
  refine ⟨fun m σ H => ∃ α F h s, At τ X.K α F H h s σ ∧ OP τ X.K X.mg W α F H (whileL ft fb cl m s h) D, ⟨n, p⟩, fun m σ H p => ?_⟩
  obtain ⟨α, F, h, s, a, p⟩ := p
  cases m with
  | zero => exact p.elim
  | succ m =>
    refine OP.outAt (rel := relB) (f := ft) a p fun α1 F1 H1 h1 d b x1 a1 r p => ?_
    have r' : d = b := r
    subst r'
    cases d with
    | false => exact iteF (p.next a1)
    | true =>
      refine iteT ⟨fun σ' H' => ∃ α F h s, At τ X.K α F H' h s σ' ∧ OP τ X.K X.mg W α F H' (whileL ft fb cl m s h) D, fun σ' H' q => ⟨m, Nat.lt_succ_self m, q⟩, α1, F1, h1, s, a1, ?_⟩
      have p : OP τ X.K X.mg W α1 F1 H1 (loopO (fb s h1) cl fun s' h' => whileL ft fb cl m s' h') D := p
      revert p
      generalize fb s h1 = o
      intro p
      cases o with
      | next s' h' => exact fun α' F' H' σ' x a' => ⟨α', F', h', _, ⟨a'.1, a'.2.clear cl⟩, p.ext x⟩
      | cont s' h' => exact fun α' F' H' σ' x a' => ⟨α', F', h', _, ⟨a'.1, a'.2.clear cl⟩, p.ext x⟩
      | brk s' h' => exact fun α' F' H' σ' x a' => (p.ext x).next ⟨a'.1, a'.2.clear cl⟩
      | ret d h' => exact p
      | exc e s' h' => exact p
      | bad => exact p
theorem OP.outX {K : PySem.W.Frag} {mg : Str → Option Value} {α : Al} {F H : Hp} {s : Sl} {W : WX} {A B : Type} {rel : Al → Hp → A → B → Prop} {r : Res A} {f : A → Hs → Out} {D : Ends} (p : OP τ K mg W α F H ((noX r).out s f) D) :
    RP τ K mg NoE rel α F H r (fun b H1 => ∃ α1 F1 h1 d, Ext α F H α1 F1 H1 ∧ Wd τ K α1 F1 H1 h1 ∧ rel α1 F1 d b ∧ OP τ K mg W α1 F1 H1 (f d h1) D) := by
  cases r with
  | ok d h' => exact fun α1 F1 H1 b x w q => ⟨α1, F1, h', d, x, w, q, p.ext x⟩
  | exc e h' => exact p.elim
  | bad => exact p.elim
theorem gE0_noX {tg : Expr} {d : D} {s : Sl} {h : Hs} : gE0 S c tg d s h = noX (gE0 S c tg d s h) := by
  have key : ∀ (x y : D) (h2 : Hs), (setD x y d h2).bind (fun _ h3 => Res.ok s h3) = noX ((setD x y d h2).bind fun _ h3 => Res.ok s h3) := by
    intro x y h2
    unfold setD
    repeat' split
    all_goals first
      | rfl
      | (unfold wr; split <;> rfl)
  have pl : ∀ o : Option Sl, (match o with | some s' => Res.ok s' h | none => .bad) = noX (match o with | some s' => Res.ok s' h | none => .bad) := by
    intro o; cases o <;> rfl
  unfold gE0
  split
  · rfl
  · rename_i o i _ _
    cases S.e c o s h with
    | ok x h1 =>
      show (noX (S.e c i s h1)).bind _ = noX ((noX (S.e c i s h1)).bind _)
      cases S.e c i s h1 with
      | ok y h2 => exact key x y h2
      | exc _ _ => rfl
      | bad => rfl
    | exc _ _ => rfl
    | bad => rfl
  · exact pl _
theorem gE2_noX {f g : D → Sl → Hs → Res Sl} (hg : ∀ b s1 h1, g b s1 h1 = noX (g b s1 h1)) (d : D) (s : Sl) (h : Hs) : gE2 f g d s h = noX (gE2 f g d s h) := by
  unfold gE2
  split
  · rename_i a b
    cases f a s h with
    | ok s1 h1 => exact hg b s1 h1
    | exc _ _ => rfl
    | bad => rfl
  · rfl
theorem gE_noX {tg : Expr} {d : D} {s : Sl} {h : Hs} : gE S c tg d s h = noX (gE S c tg d s h) := by
  unfold gE
  split
  · exact gE2_noX (fun b s1 h1 => gE0_noX) d s h
  · exact gE0_noX
theorem ps_forD (g : Gd τ G call X c k W) {tg it : Expr} {b : List Stmt} {pos : Pos} {fb : Sl → Hs → Out} (cl : List Nat) (hs : isSet it = false) (ih : ∀ e, PE X e (tE τ X.K X.mg W (S.e c e))) (hb : PSs X b (tS τ X.K X.mg W fb)) :
    PS X (.For tg it b [] pos) (tS τ X.K X.mg W fun s h => (walkE G S c tg it s h).out s fun w h1 => forL w (fun d s h => (gE S c tg d s h).out s fun s2 h2 => fb s2 h2) cl w.most 0 s h1) := by
  refine (ps_for g.po g.calm (walk_ok g ih tg it) (gE_ok g ih tg) hb (foldedSet hs)).imp fun D σ H p => ?_
  obtain ⟨α, F, h, s, a, p⟩ := p
  refine ⟨α, F, h, s, a, ?_⟩
  simp only [] at p
  revert p
  generalize walkE G S c tg it s h = o
  intro p
  cases o with
  | exc e h' => exact fun α1 F1 H1 cc d x w q => p α1 F1 H1 σ cc d x (a.ext x w) q
  | bad => exact p
  | ok w h' =>
    intro α1 F1 H1 J x1 w1 hJ
    refine ⟨fun i m σ H => ∃ α F h s, Ext α1 F1 H1 α F H ∧ At τ X.K α F H h s σ ∧ OP τ X.K X.mg W α F H (forL w (fun d s h => (gE S c tg d s h).out s fun s2 h2 => fb s2 h2) cl m i s h) D,
      ⟨w.most, α1, F1, h', s, Ext.refl, a.ext x1 w1, OP.ext x1 p⟩, fun i m σ H p => ?_⟩
    obtain ⟨α, F, h, s, x, a, p⟩ := p
    obtain ⟨jgo, jstop⟩ := hJ i α F H h x a.1
    unfold forL at p
    cases hx : w.nxt i h with
    | none => rw [hx] at p; exact p.elim
    | some o =>
      cases o with
      | none =>
        rw [hx] at p
        exact .inl ⟨jstop hx, p.next a⟩
      | some d =>
        rw [hx] at p
        cases m with
        | zero => exact p.elim
        | succ m =>
          obtain ⟨jg, jy⟩ := jgo d hx
          refine .inr ⟨jg, fun σ' H' => ∃ α F h s, Ext α1 F1 H1 α F H' ∧ At τ X.K α F H' h s σ' ∧ OP τ X.K X.mg W α F H' (forL w (fun d s h => (gE S c tg d s h).out s fun s2 h2 => fb s2 h2) cl m (i + 1) s h) D,
            fun σ' H' q => ⟨m, Nat.lt_succ_self m, q⟩, fun v H' hy => ?_⟩
          obtain ⟨F', x', wd', rd⟩ := jy v H' hy
          refine ⟨α, F', h, s, d, a.ext x' wd', rd, ?_⟩
          have p : OP τ X.K X.mg W α F H (loopO ((gE S c tg d s h).out s fun s2 h2 => fb s2 h2) cl fun s' h' => forL w (fun d s h => (gE S c tg d s h).out s fun s2 h2 => fb s2 h2) cl m (i + 1) s' h') D := p
          revert p
          rw [gE_noX (S := S) (c := c)]
          generalize gE S c tg d s h = o
          intro p
          cases o with
          | exc e h2 => exact p.elim
          | bad => exact p.elim
          | ok s2 h2 =>
            intro α3 F3 H3 σ3 x3 w3 r3
            have X3 := x'.trans x3
            refine ⟨α3, F3, h2, s2, ⟨w3, r3⟩, ?_⟩
            have p : OP τ X.K X.mg W α F H (loopO (fb s2 h2) cl fun s' h' => forL w (fun d s h => (gE S c tg d s h).out s fun s2 h2 => fb s2 h2) cl m (i + 1) s' h') D := p
            revert p
            generalize fb s2 h2 = o
            intro p
            cases o with
            | next s' h' => exact fun α' F' H' σ' y a' => ⟨α', F', h', _, (x.trans X3).trans y, ⟨a'.1, a'.2.clear cl⟩, OP.ext (X3.trans y) p⟩
            | cont s' h' => exact fun α' F' H' σ' y a' => ⟨α', F', h', _, (x.trans X3).trans y, ⟨a'.1, a'.2.clear cl⟩, OP.ext (X3.trans y) p⟩
            | brk s' h' => exact fun α' F' H' σ' y a' => OP.next ⟨a'.1, a'.2.clear cl⟩ (OP.ext (X3.trans y) p)
            | ret d h' => exact fun α' F' H' v y w r => p α' F' H' v (X3.trans y) w r
            | exc e s' h' => exact fun α' F' H' σ' cc dd y a' r => p α' F' H' σ' cc dd (X3.trans y) a' r
            | bad => exact p
end
end Bk

/-! BkSound: assignments; the evaluator is sound. -/
namespace Bk
open PySem PySem.Spec PyProof.Rows L2
section
variable {G : Cfg} {call : Str → List D → Hs → Res D} {X : Cx} {c : Ctx} {k : Nat} {W : WX} {S : Sm}
/-! ### assignments -/
theorem blockKind_fn {env : Env} (h : env.scope.kind = .function) : env.blockKind = .function := by
  unfold Env.blockKind
  rw [h]
  rfl
theorem swapC_ok (g : Gd τ G call X c k W) {v tg : Expr} {b : Bool} {line : Nat} (e : swapC c.sc v tg = some b) : swapsWith v (some tg) line X.env = pure b := by
  have hk : X.env.blockKind = .function := blockKind_fn (by rw [g.sc]; exact g.kind)
  unfold swapC at e
  split at e
  · split at e
    · cases e
      show (pure (X.env.blockKind == .function && X.env.kindOf _ == some .local && _ && _) : PySem.Sem Bool) = _
      rw [hk]
      unfold Env.kindOf
      rw [g.sc]
      rfl
    · rename_i hn
      cases e
      cases tg <;> first | rfl | exact absurd rfl (hn _ _)
  · cases e
  · cases e
  · rename_i h1 h2 h3
    cases e
    cases v <;> first
      | rfl
      | exact absurd rfl (h1 _ _ _ _)
      | exact absurd rfl (h2 _ _ _ _)
      | exact absurd rfl (h3 _ _ _ _ _)
theorem kindOf_loc (g : Gd τ G call X c k W) {x : Str} : (X.env.kindOf x == some .local) = isLoc c.sc x := by
  unfold Env.kindOf isLoc
  rw [g.sc]
theorem loc_of {sc : Scope} {x : Str} (h : isLoc sc x = true) : sc.names.lookup x = some .local := by
  unfold isLoc at h
  exact eq_of_beq h
/-- what stands in swappedStores behind the first look -/
def nameLoc (X : Cx) (line : Nat) : Expr → Option Str
  | .Name id pos => if X.env.kindOf id == some .local && pos.line == line then some id else none
  | _ => none
def swapVS (vs : List Expr) (names : List Str) : PySem.Sem (Option (List Str)) :=
  if vs.all (foldedForSure 8) then pure none
  else do
    if vs.all (constantsAlone 8) then unsupported "assign.tuple-of-constant-expressions:order-of-the-stores"
    return some names
def swapTail (X : Cx) (ts vs : List Expr) : PySem.Sem (Option (List Str)) :=
  if !(ts.length == 2 || ts.length == 3) || vs.length != ts.length || X.env.blockKind != .function then pure none
  else if vs.any isStar then pure none
  else if (ts.filterMap (nameLoc X ((ts.head?.map (·.pos.line)).getD 0))).length != ts.length || (ts.filterMap (nameLoc X ((ts.head?.map (·.pos.line)).getD 0))).eraseDups.length != (ts.filterMap (nameLoc X ((ts.head?.map (·.pos.line)).getD 0))).length then pure none
  else swapVS vs (ts.filterMap (nameLoc X ((ts.head?.map (·.pos.line)).getD 0)))
theorem swapped_tail {ts vs : List Expr} {k1 k2 : Nat} {p1 p2 : Pos} : swappedStores [.Tuple ts k1 p1] (.Tuple vs k2 p2) X.env = swapTail X ts vs := by
  have e1 : (fun x : Expr => match x with | .Starred .. => true | _ => false) = isStar := by funext x; cases x <;> rfl
  unfold swappedStores swapTail swapVS
  rfl
theorem swapVS_ok {vs : List Expr} {b : Bool} {names : List Str} (e : swapV vs = some b) : (if vs.any isStar then pure none else swapVS vs names : PySem.Sem (Option (List Str))) = pure (if b then some names else none) := by
  unfold swapV at e
  unfold swapVS
  split at e
  · rename_i h; cases e; rw [if_pos h]; rfl
  · rename_i h
    split at e
    · rename_i h2; cases e; rw [if_neg h, if_pos h2]; rfl
    · rename_i h2
      split at e
      · cases e
      · rename_i h3; cases e; rw [if_neg h, if_neg h2]; simp only [h3]; rfl
theorem not_fn (g : Gd τ G call X c k W) : (X.env.blockKind != .function) = false := by
  rw [blockKind_fn (by rw [g.sc]; exact g.kind)]; rfl
theorem nameLoc_N (g : Gd τ G call X c k W) {x : Str} {px : Pos} {l : Nat} : nameLoc X l (.Name x px) = if isLoc c.sc x && px.line == l then some x else none := by
  show (if X.env.kindOf x == some .local && px.line == l then some x else none) = _
  rw [kindOf_loc g]
theorem swap2_ok (g : Gd τ G call X c k W) {x y : Str} {px py : Pos} {a b : Expr} {bb : Bool} (e : swap2 c.sc x y px py [a, b] = some bb) : swapTail X [.Name x px, .Name y py] [a, b] = pure (if bb then some [x, y] else none) := by
  have h0 : (!(([Expr.Name x px, .Name y py] : List Expr).length == 2 || ([Expr.Name x px, .Name y py] : List Expr).length == 3) || ([a, b] : List Expr).length != ([Expr.Name x px, .Name y py] : List Expr).length || X.env.blockKind != .function) = false := by
    rw [not_fn g]; rfl
  have hn : ([Expr.Name x px, .Name y py] : List Expr).filterMap (nameLoc X (((([Expr.Name x px, .Name y py] : List Expr).head?.map (·.pos.line)).getD 0))) = (if isLoc c.sc x then [x] else []) ++ if isLoc c.sc y && py.line == px.line then [y] else [] := by
    show ([Expr.Name x px, .Name y py] : List Expr).filterMap (nameLoc X px.line) = _
    rw [List.filterMap_cons, nameLoc_N g, List.filterMap_cons, nameLoc_N g]
    cases isLoc c.sc x <;> cases (isLoc c.sc y && py.line == px.line) <;> simp
  unfold swapTail
  rw [h0, hn]
  unfold swap2 at e
  cases h1 : isLoc c.sc x with
  | false => 
    rw [h1] at e; cases e
    cases (isLoc c.sc y && py.line == px.line) <;> simp
  | true =>
    cases h2 : (isLoc c.sc y && py.line == px.line) with
    | false => rw [h1, h2] at e; cases e; simp
    | true =>
      by_cases h3 : x = y
      · subst h3
        have h4 : (x != x) = false := by simp
        rw [h4, Bool.and_false] at e
        cases e
        simp [List.eraseDups_cons]
      · rw [h1, h2] at e
        have h4 : (x != y) = true := by simpa using h3
        rw [h4] at e
        have h5 : ¬ y = x := fun z => h3 z.symm
        have h6 : ([x, y] : List Str).eraseDups.length = 2 := by simp [List.eraseDups_cons, h5]
        have q := swapVS_ok (names := [x, y]) e
        simp [h6]
        simpa using q
theorem swap3_ok (g : Gd τ G call X c k W) {x y z : Str} {px py pz : Pos} {a b d : Expr} {bb : Bool} (e : swap3 c.sc x y z px py pz [a, b, d] = some bb) : swapTail X [.Name x px, .Name y py, .Name z pz] [a, b, d] = pure (if bb then some [x, y, z] else none) := by
  have h0 : (!(([Expr.Name x px, .Name y py, .Name z pz] : List Expr).length == 2 || ([Expr.Name x px, .Name y py, .Name z pz] : List Expr).length == 3) || ([a, b, d] : List Expr).length != ([Expr.Name x px, .Name y py, .Name z pz] : List Expr).length || X.env.blockKind != .function) = false := by
    rw [not_fn g]; rfl
  have hn : ([Expr.Name x px, .Name y py, .Name z pz] : List Expr).filterMap (nameLoc X (((([Expr.Name x px, .Name y py, .Name z pz] : List Expr).head?.map (·.pos.line)).getD 0))) =
      (if isLoc c.sc x then [x] else []) ++ ((if isLoc c.sc y && py.line == px.line then [y] else []) ++ if isLoc c.sc z && pz.line == px.line then [z] else []) := by
    show ([Expr.Name x px, .Name y py, .Name z pz] : List Expr).filterMap (nameLoc X px.line) = _
    rw [List.filterMap_cons, nameLoc_N g, List.filterMap_cons, nameLoc_N g, List.filterMap_cons, nameLoc_N g]
    cases isLoc c.sc x <;> cases (isLoc c.sc y && py.line == px.line) <;> cases (isLoc c.sc z && pz.line == px.line) <;> simp
  unfold swapTail
  rw [h0, hn]
  unfold swap3 at e
  cases h1 : isLoc c.sc x with
  | false =>
    rw [h1] at e; cases e
    cases (isLoc c.sc y && py.line == px.line) <;> cases (isLoc c.sc z && pz.line == px.line) <;> simp
  | true =>
    cases h2 : (isLoc c.sc y && py.line == px.line) with
    | false =>
      rw [h1, h2] at e; cases e
      cases (isLoc c.sc z && pz.line == px.line) <;> simp
    | true =>
      cases h2' : (isLoc c.sc z && pz.line == px.line) with
      | false => rw [h1, h2, h2'] at e; cases e; simp
      | true =>
        by_cases h3 : x = y ∨ x = z ∨ y = z
        · have h4 : (x != y && x != z && y != z) = false := by
            rcases h3 with h3 | h3 | h3 <;> subst h3 <;> simp
          rw [h1, h2, h2', h4] at e
          cases e
          have h6 : ([x, y, z] : List Str).eraseDups.length ≠ 3 := by
            by_cases a1 : y = x
            · by_cases a2 : z = x <;> simp [List.eraseDups_cons, a1, a2]
            · by_cases a2 : z = x
              · simp [List.eraseDups_cons, a1, a2]
              · have a3 : z = y := by
                  rcases h3 with h3 | h3 | h3
                  · exact absurd h3.symm a1
                  · exact absurd h3.symm a2
                  · exact h3.symm
                simp [List.eraseDups_cons, a1, a3]
          simp [h6]
        · have h3a : ¬ y = x := fun q => h3 (.inl q.symm)
          have h3b : ¬ z = x := fun q => h3 (.inr (.inl q.symm))
          have h3c : ¬ z = y := fun q => h3 (.inr (.inr q.symm))
          have h4 : (x != y && x != z && y != z) = true := by
            have b1 : ¬ x = y := fun q => h3a q.symm
            have b2 : ¬ x = z := fun q => h3b q.symm
            have b3 : ¬ y = z := fun q => h3c q.symm
            simp [b1, b2, b3]
          rw [h1, h2, h2', h4] at e
          have h6 : ([x, y, z] : List Str).eraseDups.length = 3 := by simp [List.eraseDups_cons, h3a, h3b, h3c]
          have q := swapVS_ok (names := [x, y, z]) e
          simp [h6]
          simpa using q
theorem noSwap_ok (g : Gd τ G call X c k W) {ts vs : List Expr} (h : noSwap ts vs = true) : swapTail X ts vs = pure none := by
  unfold swapTail
  unfold noSwap at h
  by_cases h0 : (!(ts.length == 2 || ts.length == 3) || vs.length != ts.length || X.env.blockKind != .function) = true
  · rw [if_pos h0]
  · rw [if_neg h0]
    rw [Bool.or_eq_true] at h
    have h1 : ts.any (fun | .Name .. => false | _ => true) = true := by
      rcases h with h | h
      · refine absurd ?_ h0
        rw [Bool.or_eq_true]
        exact .inl h
      · exact h
    split
    · rfl
    · have h2 : (ts.filterMap (nameLoc X ((ts.head?.map (·.pos.line)).getD 0))).length < ts.length := by
        generalize ((ts.head?.map (·.pos.line)).getD 0) = l
        clear h h0
        induction ts with
        | nil => cases h1
        | cons e r ih =>
          rw [List.any_cons, Bool.or_eq_true] at h1
          have hle : ∀ r : List Expr, (r.filterMap (nameLoc X l)).length ≤ r.length := fun r => List.length_filterMap_le _ _
          rw [List.filterMap_cons]
          cases e with
          | Name id p =>
            have hr := ih (h1.resolve_left (by simp))
            split
            · exact Nat.lt_succ_of_lt hr
            · exact Nat.succ_lt_succ hr
          | _ => exact Nat.lt_succ_of_le (hle r)
      have h3 : ((ts.filterMap (nameLoc X ((ts.head?.map (·.pos.line)).getD 0))).length != ts.length) = true := by
        rw [bne_iff_ne]
        exact Nat.ne_of_lt h2
      rw [h3]
      simp
end
end Bk

/-! BkSound2: the evaluator is sound. -/
namespace Bk
open PySem PySem.Spec PyProof.Rows L2
section
variable {G : Cfg} {call : Str → List D → Hs → Res D} {X : Cx} {c : Ctx} {k : Nat} {W : WX} {S : Sm}
theorem canSto_ok {x : Str} (h : canSto c x = true) : stoN c x = true ∧ ∃ i, nameAt c.nm x = some i := by
  unfold canSto at h
  rw [Bool.and_eq_true] at h
  exact ⟨h.1, Option.isSome_iff_exists.mp h.2⟩
theorem setN_can {x : Str} {i : Nat} {s : Sl} {d : D} (h1 : stoN c x = true) (h2 : nameAt c.nm x = some i) : setN c s x d = some (s.set i (some d)) := by
  unfold setN
  rw [if_pos h1, h2]
  rfl
theorem ps_plain (g : Gd τ G call X c k W) (ih : ∀ e, PE X e (tE τ X.K X.mg W (S.e c e))) {tg v : Expr} {pos : Pos} (ht : isStar tg = false) (hs : swapsWithSole [tg] v pos.line X.env = pure false) (hw : swappedStores [tg] v X.env = pure none) :
    PS X (.Assign [tg] v pos) (tS τ X.K X.mg W (asgPlain S c tg v)) := by
  refine (ps_asg (ih v) (gE_ok g ih tg) hs hw (by rw [assignEach_cons ht]; rfl)).imp fun D σ H p => ?_
  refine tS.out (rel := RD X.K) p fun α F H h s d x a r p => ?_
  refine ⟨α, F, h, s, d, a, r, ?_⟩
  rw [gE_noX] at p
  exact (OP.outX (rel := SR X.K) p).mono fun σ' H' ⟨α1, F1, h1, s1, x1, w1, r1, p1⟩ => p1.next ⟨w1, r1⟩
/-- a dict's place is stored -/
theorem gDc_noX {o i : Expr} {d : D} {s : Sl} {h : Hs} : gDc S c o i d s h = noX (gDc S c o i d s h) := by
  have key : ∀ (x y : D) (h2 : Hs), (dsetD x y d h2).bind (fun _ h3 => Res.ok s h3) = noX ((dsetD x y d h2).bind fun _ h3 => Res.ok s h3) := by
    intro x y h2
    unfold dsetD
    repeat' split
    all_goals first
      | rfl
      | (unfold wr; split <;> rfl)
  unfold gDc
  cases S.e c o s h with
  | ok x h1 =>
    show (noX (S.e c i s h1)).bind _ = noX ((noX (S.e c i s h1)).bind _)
    cases S.e c i s h1 with
    | ok y h2 => exact key x y h2
    | exc _ _ => rfl
    | bad => rfl
  | exc _ _ => rfl
  | bad => rfl
theorem gDc_ok (g : Gd τ G call X c k W) (ih : ∀ e, PE X e (tE τ X.K X.mg W (S.e c e))) (o i : Expr) (pos : Pos) (hi' : isSlice i = false) : PG X (.Subscript o i pos) (tG τ X.K X.mg (gDc S c o i)) := by
  have ha : ∀ v, assign (.Subscript o i pos) X.env v = (do
      let ov ← holding [v] (eval o X.env)
      let iv ← holding [v, ov] (eval i X.env)
      standAt pos
      holding [v, ov, iv] (setItem ov iv v)
      release [v, ov, iv] []) := by intro v; cases i <;> first | rfl | cases hi'
  refine (pg_sub (ih o) (ih i) (set_Dc (τ := τ) (mg := X.mg) rfl g.hu) ha).imp fun v σ H Q p => ?_
  obtain ⟨α, F, h, s, d, a, r, p⟩ := p
  have p : RP τ X.K X.mg NoE (SR X.K) α F H ((noX (S.e c o s h)).bind fun x h1 => (noX (S.e c i s h1)).bind fun y h2 => (dsetD x y d h2).bind fun _ h3 => .ok s h3) Q := p
  refine RP.start a ((RP.unX (rel := RD X.K) p).mono fun x H1 ⟨α1, F1, h1, dx, x1, w1, r1, p1⟩ => ?_)
  have a1 := a.ext x1 w1
  refine RP.start a1 ((RP.unX (rel := RD X.K) p1).mono fun y H2 ⟨α2, F2, h2, dy, x2, w2, r2, p2⟩ => ?_)
  have a2 := a1.ext x2 w2
  refine ⟨NoE, α2, F2, h2, dx, dy, d, w2, x2.rd r1, r2, (x1.trans x2).rd r, ?_⟩
  exact (RP.bind (rel := RD X.K) p2).mono fun b H3 ⟨α3, F3, h3, d3, x3, w3, r3, p3⟩ => p3.ok w3 (a2.2.mono x3)
theorem ps_dc (g : Gd τ G call X c k W) (ih : ∀ e, PE X e (tE τ X.K X.mg W (S.e c e))) {o i v : Expr} {tp pos : Pos} (hi : isSlice i = false) (hs : swapsWithSole [.Subscript o i tp] v pos.line X.env = pure false) (hw : swappedStores [.Subscript o i tp] v X.env = pure none) :
    PS X (.Assign [.Subscript o i tp] v pos) (tS τ X.K X.mg W (asgDc S c o i v)) := by
  refine (ps_asg (ih v) (gDc_ok g ih o i tp hi) hs hw (by rw [assignEach_cons (rfl : isStar (.Subscript o i tp) = false)]; rfl)).imp fun D σ H p => ?_
  refine tS.out (rel := RD X.K) p fun α F H h s d x a r p => ?_
  refine ⟨α, F, h, s, d, a, r, ?_⟩
  rw [gDc_noX] at p
  exact (OP.outX (rel := SR X.K) p).mono fun σ' H' ⟨α1, F1, h1, s1, x1, w1, r1, p1⟩ => p1.next ⟨w1, r1⟩
theorem dixT_eq {tg : Expr} {p : Expr × Expr} (e : dixT G tg = some p) : ∃ pos, tg = .Subscript p.1 p.2 pos ∧ isSlice p.2 = false := by
  unfold dixT at e
  split at e
  · split at e
    · rename_i h
      cases e
      rw [Bool.and_eq_true] at h
      exact ⟨_, rfl, by simpa using h.2⟩
    · cases e
  · cases e
theorem swap_same {ts vs : List Expr} {k1 k2 : Nat} {p1 p2 : Pos} (h : swapTail X ts vs = pure none) : swappedStores [.Tuple ts k1 p1] (.Tuple vs k2 p2) X.env = pure none := by rw [swapped_tail, h]
theorem ix_ne {nm : List Str} {x y : Str} {i j : Nat} (h1 : nameAt nm x = some i) (h2 : nameAt nm y = some j) (h : x ≠ y) : i ≠ j := by
  intro e
  subst e
  have a := nameAt_get h1
  have b := nameAt_get h2
  rw [a] at b
  exact h (Option.some.inj b)
theorem swap2_facts {sc : Scope} {x y : Str} {px py : Pos} {vs : List Expr} (e : swap2 sc x y px py vs = some true) : isLoc sc x = true ∧ isLoc sc y = true ∧ x ≠ y := by
  unfold swap2 at e
  split at e
  · rename_i h
    rw [Bool.and_eq_true, Bool.and_eq_true, Bool.and_eq_true] at h
    exact ⟨h.1.1, h.1.2.1, by simpa using h.2⟩
  · cases e
theorem swap3_facts {sc : Scope} {x y z : Str} {px py pz : Pos} {vs : List Expr} (e : swap3 sc x y z px py pz vs = some true) : isLoc sc x = true ∧ isLoc sc y = true ∧ isLoc sc z = true ∧ x ≠ y ∧ x ≠ z ∧ y ≠ z := by
  unfold swap3 at e
  split at e
  · rename_i h
    simp only [Bool.and_eq_true] at h
    obtain ⟨⟨⟨h1, h2⟩, h3⟩, h4⟩ := h
    exact ⟨h1, h2.1, h3.1, by simpa using h4.1.1, by simpa using h4.1.2, by simpa using h4.2⟩
  · cases e
section
variable (g : Gd τ G call X c k W) (ihE : ∀ X c W, Gd τ G call X c k W → ∀ e, PE X e (tE τ X.K X.mg W (S.e c e))) (ihT : ∀ X c W, Gd τ G call X c k W → ∀ e, PT X e (tT τ X.K X.mg W (S.t c e)))
include g ihE ihT
theorem ps_setComp {elt tg it : Expr} {ifs : List Expr} {scope : Scope} {pos py spos : Pos} {x : Str} (hsw : swapC c.sc (.ListComp elt [⟨tg, it, ifs, 0⟩] scope pos) (.Name x py) = some true) (hx : canSto c x = true) :
    PS X (.Assign [.Name x py] (.ListComp elt [⟨tg, it, ifs, 0⟩] scope pos) spos) (tS τ X.K X.mg W fun s h => (compE G S c elt tg it ifs scope pos s h).out s fun d h1 => match setN c s x d with
      | some s2 => .next s2 h1
      | none => .bad) := by
  obtain ⟨h5, i, hi⟩ := canSto_ok hx
  rcases comp_parts (G := G) (S := S) (c := c) (elt := elt) (tg := tg) (it := it) (ifs := ifs) (scope := scope) (pos := pos) with h | ⟨own, h1, h2, h3, h4⟩
  · exact .no fun D σ H => tS_bad fun s h' => by rw [h s h']; rfl
  · have hb : BlkOk X.N X.env.scope scope own := by rw [g.nm, g.sc]; exact blkOk_by h2
    have hl : X.env.scope.names.lookup x = some .local := by
      have e : (c.sc.names.lookup x == some .local && py.line == pos.line && !(scope.names.any fun (n, k) => n == x && (k == .local || k == .cell))) = true := by
        have := Option.some.inj hsw
        exact this
      rw [Bool.and_eq_true, Bool.and_eq_true] at e
      rw [g.sc]
      exact eq_of_beq e.1.1
    refine (ps_setLc (te := tE τ X.K X.mg W0 (S.e ⟨c.nm, relSc scope c.sc, some scope, c.gen⟩ elt)) (tt := tT τ X.K X.mg W0 (ifsE S ⟨c.nm, relSc scope c.sc, some scope, c.gen⟩ ifs)) (g := tGn τ X.K (own.map (·.2)) fun h d s => setT ⟨c.nm, relSc scope c.sc, some scope, c.gen⟩ (fun x => own.any fun p => p.1 == x) h 4 tg d s)
      g.calm (by rw [g.nm]; exact g.nd) (g.at_ hi) hl (swapC_ok g hsw) (walk_ok g (fun e => ihE X c W g e) tg it) hb
      (fun s H C cl fp => setT_ok (g.blk h2 s H C cl fp) (ix := own.map (·.2)) (ok := fun x => own.any fun p => p.1 == x) (fun x i hx hi _ => ?_) 4 tg)
      (fun s H C cl fp => ifs_ok (g.blk h2 s H C cl fp) (fun e => ihT _ _ _ (g.blk h2 s H C cl fp) e) ifs)
      (fun s H C cl fp => ihE _ _ _ (g.blk h2 s H C cl fp) elt) (foldedSet h1)).imp fun D σ H p => ?_
    · obtain ⟨q, hq, e⟩ := List.any_eq_true.mp hx
      have e' : q.1 = x := eq_of_beq e
      have := h3 q hq
      rw [e'] at this
      have hi : nameAt c.nm x = some i := hi
      rw [hi] at this
      cases this
      exact List.mem_map.mpr ⟨q, hq, rfl⟩
    · refine comp_read g h3 (l := G.isLoc pos) ?_
      rw [show tE τ X.K X.mg W (fun s h => (walkE G S c tg it s h).bind fun w h1 => (compL w (compTurn S ⟨c.nm, relSc scope c.sc, some scope, c.gen⟩ elt tg ifs own (clear s (own.map (·.2)))) w.most 0 [] h1).bind fun ys h6 => mkL (G.isLoc pos) ys h6) = tE τ X.K X.mg W (compE G S c elt tg it ifs scope pos) by congr 1; funext s h; exact (h4 s h).symm]
      refine tS.out (rel := RD X.K) p fun α F H h s d x' a r p => ?_
      rw [setN_can h5 hi] at p
      exact p.next ⟨a.1, a.2.set r⟩
theorem ps_par2 {x y : Str} {px py p1 p2 pos : Pos} {k1 k2 : Nat} {a b : Expr} (hsw : swapC c.sc (.Tuple [a, b] k2 p2) (.Tuple [.Name x px, .Name y py] k1 p1) = some false) (h2 : swap2 c.sc x y px py [a, b] = some true) (hx : canSto c x = true) (hy : canSto c y = true) :
    PS X (.Assign [.Tuple [.Name x px, .Name y py] k1 p1] (.Tuple [a, b] k2 p2) pos) (tS τ X.K X.mg W (asgPar S c [x, y] [a, b])) := by
  obtain ⟨s1, i, hi⟩ := canSto_ok hx
  obtain ⟨s2, j, hj⟩ := canSto_ok hy
  obtain ⟨l1, l2, hne⟩ := swap2_facts h2
  have hst := swap2_ok g h2
  refine (ps_par g.calm (by rw [g.nm]; exact g.nd) (g.at_ hi) (g.at_ hj) (ix_ne hi hj hne) (by rw [g.sc]; exact loc_of l1) (by rw [g.sc]; exact loc_of l2) (pa_args g (ihE X c W g) [a, b]) (by rw [swapped_tail, hst]; rfl) (swapC_ok (line := pos.line) g hsw)).imp fun D σ H p => ?_
  refine tS.out (rel := RDs X.K) p fun α F H h s d vs a r p => ?_
  cases r with
  | nil => exact p.elim
  | cons r1 r =>
    cases r with
    | nil => simp only [setNs, setN_can s1 hi] at p; exact p.elim
    | cons r2 r =>
      cases r with
      | cons _ _ => simp only [setNs, setN_can s1 hi, setN_can s2 hj, Option.bind_some] at p; exact p.elim
      | nil =>
        simp only [setNs, setN_can s1 hi, setN_can s2 hj, Option.bind_some] at p
        exact ⟨_, _, rfl, p.next ⟨a.1, (a.2.set r1).set r2⟩⟩
theorem ps_par3D {x y z : Str} {px py pz p1 p2 pos : Pos} {k1 k2 : Nat} {a b d : Expr} (hsw : swapC c.sc (.Tuple [a, b, d] k2 p2) (.Tuple [.Name x px, .Name y py, .Name z pz] k1 p1) = some false) (h2 : swap3 c.sc x y z px py pz [a, b, d] = some true)
    (hx : canSto c x = true) (hy : canSto c y = true) (hz : canSto c z = true) :
    PS X (.Assign [.Tuple [.Name x px, .Name y py, .Name z pz] k1 p1] (.Tuple [a, b, d] k2 p2) pos) (tS τ X.K X.mg W (asgPar S c [x, y, z] [a, b, d])) := by
  obtain ⟨s1, i, hi⟩ := canSto_ok hx
  obtain ⟨s2, j, hj⟩ := canSto_ok hy
  obtain ⟨s3, l, hl⟩ := canSto_ok hz
  obtain ⟨l1, l2, l3, n1, n2, n3⟩ := swap3_facts h2
  have hst := swap3_ok g h2
  refine (ps_par3 g.calm (by rw [g.nm]; exact g.nd) (g.at_ hi) (g.at_ hj) (g.at_ hl) (ix_ne hi hj n1) (ix_ne hi hl n2) (ix_ne hj hl n3) (by rw [g.sc]; exact loc_of l1) (by rw [g.sc]; exact loc_of l2) (by rw [g.sc]; exact loc_of l3) (pa_args g (ihE X c W g) [a, b, d])
    (by rw [swapped_tail, hst]; rfl) (swapC_ok (line := pos.line) g hsw)).imp fun D σ H p => ?_
  refine tS.out (rel := RDs X.K) p fun α F H h s d vs a r p => ?_
  cases r with
  | nil => exact p.elim
  | cons r1 r =>
    cases r with
    | nil => simp only [setNs, setN_can s1 hi] at p; exact p.elim
    | cons r2 r =>
      cases r with
      | nil => simp only [setNs, setN_can s1 hi, setN_can s2 hj, Option.bind_some] at p; exact p.elim
      | cons r3 r =>
        cases r with
        | cons _ _ => simp only [setNs, setN_can s1 hi, setN_can s2 hj, setN_can s3 hl, Option.bind_some] at p; exact p.elim
        | nil =>
          simp only [setNs, setN_can s1 hi, setN_can s2 hj, setN_can s3 hl, Option.bind_some] at p
          exact ⟨_, _, _, rfl, p.next ⟨a.1, ((a.2.set r1).set r2).set r3⟩⟩
def AsOk (X : Cx) (c : Ctx) (tg v : Expr) : AsK → Prop
  | .no => True
  | .plain => swapC c.sc v tg = some false ∧ isStar tg = false ∧ swappedStores [tg] v X.env = pure none
  | .comp elt tg' it ifs scope pos x => ∃ px, v = .ListComp elt [⟨tg', it, ifs, 0⟩] scope pos ∧ tg = .Name x px ∧ swapC c.sc v tg = some true ∧ canSto c x = true
  | .par2 x y a b => ∃ px py k1 p1 k2 p2, tg = .Tuple [.Name x px, .Name y py] k1 p1 ∧ v = .Tuple [a, b] k2 p2 ∧ swapC c.sc v tg = some false ∧ swap2 c.sc x y px py [a, b] = some true ∧ canSto c x = true ∧ canSto c y = true
  | .par3 x y z a b d => ∃ px py pz k1 p1 k2 p2, tg = .Tuple [.Name x px, .Name y py, .Name z pz] k1 p1 ∧ v = .Tuple [a, b, d] k2 p2 ∧ swapC c.sc v tg = some false ∧ swap3 c.sc x y z px py pz [a, b, d] = some true ∧ canSto c x = true ∧ canSto c y = true ∧ canSto c z = true
omit ihE ihT in
theorem asgK_spec (tg v : Expr) : AsOk X c tg v (asgK c tg v) := by
  unfold asgK
  split
  · trivial
  · rename_i hsw
    split
    · split
      · rename_i hx; exact ⟨_, rfl, rfl, hsw, hx⟩
      · trivial
    · trivial
  · rename_i hsw
    split
    · split
      · trivial
      · rename_i h2
        split
        · rename_i hx
          rw [Bool.and_eq_true] at hx
          exact ⟨_, _, _, _, _, _, rfl, rfl, hsw, h2, hx.1, hx.2⟩
        · trivial
      · rename_i h2
        exact ⟨hsw, rfl, swap_same (swap2_ok g h2)⟩
    · split
      · trivial
      · rename_i h2
        split
        · rename_i hx
          rw [Bool.and_eq_true, Bool.and_eq_true] at hx
          exact ⟨_, _, _, _, _, _, _, rfl, rfl, hsw, h2, hx.1.1, hx.1.2, hx.2⟩
        · trivial
      · rename_i h2
        exact ⟨hsw, rfl, swap_same (swap3_ok g h2)⟩
    · split
      · rename_i h2
        exact ⟨hsw, rfl, swap_same (noSwap_ok g h2)⟩
      · trivial
    · trivial
    · trivial
    · rename_i h4 h5 _ _ h3
      refine ⟨hsw, ?_, ?_⟩
      · cases tg <;> first | rfl | exact (h5 _ _ rfl).elim
      · cases tg with
        | Tuple ts k1 p1 => cases v with
          | Tuple vs k2 p2 => exact (h3 _ _ _ _ _ _ rfl rfl).elim
          | _ => rfl
        | List ts p1 => exact (h4 _ _ rfl).elim
        | Starred e p1 => exact (h5 _ _ rfl).elim
        | _ => rfl
theorem ps_pre (is : List Nat) {st : Stmt} {f : Sl → Hs → Out} (p : PS X st (tS τ X.K X.mg W f)) : PS X st (tS τ X.K X.mg W (preF is f)) := by
  refine p.imp fun D σ H q => ?_
  obtain ⟨α, F, h, s, a, q⟩ := q
  unfold preF at q
  split at q
  · rename_i p0 hp0
    obtain ⟨F', x', a'⟩ := frzS_ok is hp0 a
    exact ⟨α, F', p0.2, p0.1, a', OP.ext x' q⟩
  · exact q.elim
theorem ps_asgD (tg v : Expr) (pos : Pos) : PS X (.Assign [tg] v pos) (tS τ X.K X.mg W (asgE G S c tg v)) := by
  have sp := asgK_spec g tg v
  cases hk : asgK c tg v with
  | no => exact .no fun D σ H => tS_bad fun s h' => by unfold asgE; rw [hk]
  | plain =>
    rw [hk] at sp
    cases hd : dixT G tg with
    | none =>
      have e : asgE G S c tg v = asgPlain S c tg v := by funext s h'; unfold asgE; simp only [hk, hd]
      rw [e]
      exact ps_plain g (ihE X c W g) sp.2.1 (swapC_ok g sp.1) sp.2.2
    | some p =>
      have e : asgE G S c tg v = asgDc S c p.1 p.2 v := by funext s h'; unfold asgE; simp only [hk, hd]
      obtain ⟨tp, rfl, hi⟩ := dixT_eq hd
      rw [e]
      exact ps_dc g (ihE X c W g) hi (swapC_ok (line := pos.line) g sp.1) sp.2.2
  | comp elt tg' it ifs scope p x =>
    rw [hk] at sp
    obtain ⟨px, rfl, rfl, h1, h2⟩ := sp
    have e : asgE G S c (.Name x px) (.ListComp elt [⟨tg', it, ifs, 0⟩] scope p) = fun s h => (compE G S c elt tg' it ifs scope p s h).out s fun d h1 => match setN c s x d with
      | some s2 => .next s2 h1
      | none => .bad := by funext s h'; unfold asgE; rw [hk] <;> rfl
    rw [e]
    exact ps_setComp g ihE ihT h1 h2
  | par2 x y a b =>
    rw [hk] at sp
    obtain ⟨px, py, k1, p1, k2, p2, rfl, rfl, h1, h2, h3, h4⟩ := sp
    have e : asgE G S c (.Tuple [.Name x px, .Name y py] k1 p1) (.Tuple [a, b] k2 p2) = asgPar S c [x, y] [a, b] := by funext s h'; unfold asgE; rw [hk]
    rw [e]
    exact ps_par2 g ihE ihT h1 h2 h3 h4
  | par3 x y z a b d =>
    rw [hk] at sp
    obtain ⟨px, py, pz, k1, p1, k2, p2, rfl, rfl, h1, h2, h3, h4, h5⟩ := sp
    have e : asgE G S c (.Tuple [.Name x px, .Name y py, .Name z pz] k1 p1) (.Tuple [a, b, d] k2 p2) = asgPar S c [x, y, z] [a, b, d] := by funext s h'; unfold asgE; rw [hk]
    rw [e]
    exact ps_par3D g ihE ihT h1 h2 h3 h4 h5
end
end
end Bk

/-! BkTry: raise X(..), try: .. except X as n: return .. -/
namespace Bk
open PySem PySem.Spec PyProof.Rows L2
section
variable {G : Cfg} {call : Str → List D → Hs → Res D} {X : Cx} {c : Ctx} {k : Nat} {W : WX} {S : Sm}
theorem rd_imm {K : PySem.W.Frag} {α : Al} {F : Hp} : ∀ {d : D} {v : V}, RD K α F d v → d.imm = true → v = d.v
  | _, _, .non, _ => rfl
  | _, _, .bl _, _ => rfl
  | _, _, .int _, _ => rfl
  | _, _, .str _, _ => rfl
  | _, _, .ty _, h => by cases h
  | _, _, .tup _ _, h => by cases h
  | _, _, .lst _ _, h => by cases h
  | _, _, .scr _, h => by cases h
  | _, _, .loc _, h => by cases h
theorem imm_rd {K : PySem.W.Frag} {α : Al} {F : Hp} : ∀ {d : D}, d.imm = true → RD K α F d d.v
  | .non, _ => .non
  | .bl _, _ => .bl _
  | .int _, _ => .int _
  | .str _, _ => .str _
  | .ty _, h => by cases h
  | .tup _, h => by cases h
  | .lst _, h => by cases h
  | .scr _, h => by cases h
  | .loc _ _, h => by cases h
theorem rds_imm {K : PySem.W.Frag} {α : Al} {F : Hp} : ∀ {ds : List D} {vs : List V}, RDs K α F ds vs → ds.all D.imm = true → vs = ds.map D.v
  | _, _, .nil, _ => rfl
  | _, _, .cons r t, h => by
    rw [List.all_cons, Bool.and_eq_true] at h
    rw [rd_imm r h.1, rds_imm t h.2] <;> rfl
theorem excFs_vals (fi : List (Str × Nat)) (ds : List D) : (excFs fi ds).map (fun p => (p.1, p.2.v)) = (valsAt (.non :: ds.map D.v) fi).reverse := by
  unfold excFs valsAt
  rw [List.map_reverse, List.map_map]
  congr 1
  refine List.map_congr_left fun p _ => ?_
  show (p.1, ((D.non :: ds).getD p.2 .non).v) = _
  have : (V.non :: ds.map D.v) = (D.non :: ds).map D.v := rfl
  rw [this]
  congr 1
  rw [List.getD_eq_getElem?_getD, List.getD_eq_getElem?_getD, List.getElem?_map]
  cases (D.non :: ds)[p.2]? <;> rfl
theorem excFs_imm {fi : List (Str × Nat)} {ds : List D} (h : ds.all D.imm = true) : (excFs fi ds).all (fun p => p.2.imm) = true := by
  rw [List.all_eq_true] at h ⊢
  intro p hp
  unfold excFs at hp
  rw [List.mem_reverse, List.mem_map] at hp
  obtain ⟨q, _, rfl⟩ := hp
  show ((D.non :: ds).getD q.2 .non).imm = true
  rw [List.getD_eq_getElem?_getD]
  cases e : (D.non :: ds)[q.2]? with
  | none => rfl
  | some d =>
    rcases List.mem_cons.mp (List.mem_of_getElem? e) with rfl | hm
    · rfl
    · exact h d hm
theorem raiseO_deep {x : Str} {n : Nat} {fi : List (Str × Nat)} {r : Res (List D)} {s : Sl} {h : Hs} (hn : raiseO call x n fi r s h ≠ .bad) : call "" [] h ≠ .bad ∧ raiseO call x n fi r s h = r.out s fun ds h1 => if ds.all D.imm && decide (ds.length ≤ 1000) && decide (ds.length + 1 = n) then .exc ⟨x, excFs fi ds⟩ s h1 else .bad := by
  unfold raiseO at hn ⊢
  cases e : call "" [] h with
  | bad => rw [e] at hn; exact absurd rfl hn
  | ok a b => exact ⟨(fun z => nomatch z), rfl⟩
  | exc a b => exact ⟨(fun z => nomatch z), rfl⟩
theorem ps_raiseD (g : Gd τ G call X c k W) (ih : ∀ e, PE X e (tE τ X.K X.mg W (S.e c e))) {x : Str} {es : List Expr} {p p2 pos : Pos} :
    PS X (.Raise (some (.Call (.Name x p) es [] p2)) none pos) (tS τ X.K X.mg W (raiseE G call S c x es)) := by
  refine ⟨fun pins s σ H D I h => ?_⟩
  obtain ⟨α, F, h0, sl, a, q⟩ := h
  unfold raiseE at q
  split at q
  · exact q.elim
  · rename_i hst
    rw [Bool.or_eq_true, not_or] at hst
    split at q
    · rename_i hg
      split at q
      · rename_i r hr
        · obtain ⟨C, fI, fd, ps, hm, T, XF, iC, tI, F1, hb, hpl, hfi, hsub, hisa, hdb, hnm⟩ := g.top.excs x r hr
          have hne : raiseO call x r.n r.fi (argsE (S.e c) es sl h0) sl h0 ≠ .bad := fun e => by
            rw [e] at q
            exact q
          obtain ⟨hdeep, heq⟩ := raiseO_deep hne
          have hk := g.top.deep _ hdeep
          rw [heq] at q
          cases es with
          | nil => exact absurd rfl hst.1
          | cons e es =>
            have h3 : (e :: es).any isStar = false := by
              have := hst.2
              simpa using this
            rw [List.any_cons, Bool.or_eq_false_iff] at h3
            refine (ps_raise g.calm g.tk (pmk_way g.tk T iC tI F1 (g.room.mono hk) hb (g.gl hg) hm (pa_args g ih (e :: es)) (fun p hp => (hfi p hp).1) (fun σ H Q Q' hq ⟨α, F, h, s, a, p⟩ => ⟨α, F, h, s, a, p.mono hq⟩) hdb (starEach_cons h3.1) (noStar h3.2))).run pins s σ H D I ?_
            refine RP.start a ((OP.out (rel := RDs X.K) a q).mono fun vs H1 ⟨α1, F1', h1, ds, x1, a1, r1, q1⟩ => ?_)
            split at q1
            · rename_i hc
              rw [Bool.and_eq_true, Bool.and_eq_true, decide_eq_true_iff, decide_eq_true_iff] at hc
              refine ⟨by rw [← r1.length]; exact hc.1.2, ?_, fun d hd => ?_⟩
              · have := r1.length
                omega
              · obtain ⟨w', x2, e'⟩ := a1.1.newF hd (.xd (valsAt (.non :: vs) r.fi).reverse)
                refine q1 _ _ _ _ _ _ x2 (a1.ext x2 w') ⟨⟨C, d, hm, rfl, rfl, ?_⟩, excFs_imm hc.1.1⟩
                rw [excFs_vals, ← rds_imm r1 hc.1.1]
                exact e'
            · exact q1.elim
      · exact q.elim
    · exact q.elim
/-! ### the suite -/
/-- the state in an except suite -/
def HS (τ : List Addr) (X : Cx) (x : Str) (a : Addr) (i : Nat) (cls : Value) (dd : Option Addr) (σ : L2.St) (H : Hp) (α : Al) (F : Hp) (h : Hs) (ex : Exn) : Prop :=
  σ[i]? = some (some (.ref a)) ∧ Wd τ X.K α F H h ∧ RX X.mg F ex cls dd ∧ ex.cls = x
def tH (τ : List Addr) (X : Cx) (x n : Str) (fi : List (Str × Nat)) (a : Addr) (i : Nat) (cls : Value) (dd : Option Addr) (e : Expr) : TE := fun σ H Q =>
  ∃ α F h ex d0, HS τ X x a i cls dd σ H α F h ex ∧ hE fi n ex.fs e = some d0 ∧ Q d0.v H
def tHA (τ : List Addr) (X : Cx) (x n : Str) (fi : List (Str × Nat)) (a : Addr) (i : Nat) (cls : Value) (dd : Option Addr) (es : List Expr) : TA := fun σ H Q =>
  ∃ α F h ex ds, HS τ X x a i cls dd σ H α F h ex ∧ hEs fi n ex.fs es = some ds ∧ Q (ds.map D.v) H
section
variable {x n : Str} {r : ExcR} {a C : Addr} {oe : Obj} {cls : Value} {dd : Option Addr} {pn : List (Addr × Obj)} {i : Nat}
theorem lookup_vals {fs : List (Str × D)} {f : Str} {d : D} (h : fs.lookup f = some d) : (fs.map fun p => (p.1, p.2.v)).lookup f = some d.v := by
  induction fs with
  | nil => cases h
  | cons p fs ih =>
    obtain ⟨g, z⟩ := p
    rw [List.map_cons]
    simp only [List.lookup] at h ⊢
    split at h
    · cases h
      rfl
    · exact ih h
theorem pe_h (g : Gd τ G call X c k W) (hm : X.mg x = some (.ref C)) (XF : XfC X.K C) (hfi : ∀ p ∈ r.fi, PySem.W.findIn X.K (.ref C) p.1 = some none) (hn : nameAt c.nm n = some i) (hl : c.sc.names.lookup n = some .local) (hz : Zc cls dd oe) (hf : ∃ vs, oe.data = .fields vs) (e : Expr) :
    PE (X.suite a ((a, oe) :: pn)) e (tH τ X x n r.fi a i cls dd e) := by
  have hnd : (n == ("__debug__" : Str)) = false ∧ (n == ("__classdict__" : Str)) = false := by
    have hmem := List.mem_of_getElem? (nameAt_get hn)
    exact ⟨ne_beq fun z => g.dbg.1 (z ▸ hmem), ne_beq fun z => g.dbg.2 (z ▸ hmem)⟩
  have no : (∀ fs, hE r.fi n fs e = none) → PE (X.suite a ((a, oe) :: pn)) e (tH τ X x n r.fi a i cls dd e) := fun h => .no fun σ H Q ⟨α, F, hp, ex, d0, _, e1, _⟩ => by
    rw [h] at e1
    cases e1
  cases e with
  | Constant v j pos =>
    cases v with
    | int m => exact pe_int.imp fun σ H Q ⟨α, F, hp, ex, d0, _, e1, q⟩ => by cases e1; exact q
    | str m => exact pe_str.imp fun σ H Q ⟨α, F, hp, ex, d0, _, e1, q⟩ => by cases e1; exact q
    | bool m => exact pe_bl.imp fun σ H Q ⟨α, F, hp, ex, d0, _, e1, q⟩ => by cases e1; exact q
    | none => exact pe_non.imp fun σ H Q ⟨α, F, hp, ex, d0, _, e1, q⟩ => by cases e1; exact q
    | _ => exact no fun fs => rfl
  | Attribute o f pos =>
    cases o with
    | Name y py =>
      by_cases hy : y = n ∧ (r.fi.any fun p => p.1 == f) = true
      · obtain ⟨rfl, hany⟩ := hy
        obtain ⟨p, hp, hpf⟩ := List.any_eq_true.mp hany
        have hno := hfi p hp
        rw [beq_iff_eq.mp hpf] at hno
        have hN : X.N[i]? = some y := by rw [g.nm]; exact nameAt_get hn
        have hv : Vis X.env.scope y := .inl (by rw [g.sc]; exact hl)
        refine (pe_xf (d := dd) XF hno hz hf (pe_var (X := X.suite a ((a, oe) :: pn)) hN hv hnd.1 hnd.2)).imp fun σ H Q ⟨α, F, hp, ex, d0, ⟨hs, w, ⟨⟨C', d', m1, c1, d1, f1⟩, im⟩, hx⟩, e1, q⟩ => ?_
        rw [hx, hm] at m1
        cases m1
        have e1 : (if y = y ∧ (r.fi.any fun p => p.1 == f) = true then ex.fs.lookup f else none) = some d0 := e1
        rw [if_pos ⟨rfl, hany⟩] at e1
        exact ⟨.ref a, hs, rfl, c1, d', _, d0.v, d1, w.sub _ _ f1, lookup_vals e1, q⟩
      · exact no fun fs => (show (if y = n ∧ (r.fi.any fun p => p.1 == f) = true then fs.lookup f else none) = none by rw [if_neg hy])
    | _ => exact no fun fs => rfl
  | _ => exact no fun fs => rfl
theorem pa_h (g : Gd τ G call X c k W) (hm : X.mg x = some (.ref C)) (XF : XfC X.K C) (hfi : ∀ p ∈ r.fi, PySem.W.findIn X.K (.ref C) p.1 = some none) (hn : nameAt c.nm n = some i) (hl : c.sc.names.lookup n = some .local) (hz : Zc cls dd oe) (hf : ∃ vs, oe.data = .fields vs) :
    ∀ es : List Expr, es.any isStar = false → PA (X.suite a ((a, oe) :: pn)) es (tHA τ X x n r.fi a i cls dd es)
  | [], _ => pa_nil.imp fun σ H Q ⟨α, F, hp, ex, ds, _, e1, q⟩ => by cases e1; exact q
  | e :: es, hst => by
    rw [List.any_cons, Bool.or_eq_false_iff] at hst
    refine (pa_cons (pe_h (pn := pn) g hm XF hfi hn hl hz hf e) (pa_h g hm XF hfi hn hl hz hf es hst.2) (starEach_cons hst.1)).imp fun σ H Q ⟨α, F, hp, ex, ds, hs, e1, q⟩ => ?_
    unfold hEs at e1
    obtain ⟨d0, e2, e3⟩ := Option.bind_eq_some_iff.mp e1
    obtain ⟨ds', e4, rfl⟩ := Option.map_eq_some_iff.mp e3
    exact ⟨α, F, hp, ex, d0, hs, e2, α, F, hp, ex, ds', hs, e4, q⟩
theorem hE_imm {fi : List (Str × Nat)} {n : Str} {fs : List (Str × D)} (him : fs.all (fun p => p.2.imm) = true) {e : Expr} {d : D} (h : hE fi n fs e = some d) : d.imm = true := by
  have lk : ∀ {fs : List (Str × D)} {f : Str} {d : D}, fs.all (fun p => p.2.imm) = true → fs.lookup f = some d → d.imm = true := by
    intro fs f d him h
    induction fs with
    | nil => cases h
    | cons p fs ih =>
      obtain ⟨g, z⟩ := p
      rw [List.all_cons, Bool.and_eq_true] at him
      simp only [List.lookup] at h
      split at h
      · cases h
        exact him.1
      · exact ih him.2 h
  unfold hE at h
  split at h
  · split at h
    · exact lk him h
    · cases h
  all_goals (first | (cases h; rfl) | cases h)
theorem hEs_imm {fi : List (Str × Nat)} {n : Str} {fs : List (Str × D)} (him : fs.all (fun p => p.2.imm) = true) : ∀ {es : List Expr} {ds : List D}, hEs fi n fs es = some ds → ds.all D.imm = true ∧ ds.length = es.length
  | [], ds, h => by cases h; exact ⟨rfl, rfl⟩
  | e :: es, ds, h => by
    unfold hEs at h
    obtain ⟨d0, e2, e3⟩ := Option.bind_eq_some_iff.mp h
    obtain ⟨ds', e4, rfl⟩ := Option.map_eq_some_iff.mp e3
    obtain ⟨h1, h2⟩ := hEs_imm him e4
    exact ⟨by rw [List.all_cons, Bool.and_eq_true]; exact ⟨hE_imm him e2, h1⟩, by simp [h2]⟩
theorem imm_rds {K : PySem.W.Frag} {α : Al} {F : Hp} : ∀ {ds : List D}, ds.all D.imm = true → RDs K α F ds (ds.map D.v)
  | [], _ => .nil
  | d :: ds, h => by
    rw [List.all_cons, Bool.and_eq_true] at h
    exact .cons (imm_rd h.1) (imm_rds h.2)
/-- isinstance(e, C), e the exception that the suite holds, with a dict -/
def rIsX (K : PySem.W.Frag) (D a : Addr) (cls : Value) (d : Option Addr) : List V → Hp → VK → Prop := fun xs H Q => ∃ (c : V) (cv : Value) (b : Bool) (dd : Addr) (fs : List (Str × V)), xs = [.ref a, c] ∧ cls = .ref D ∧ (∀ u, RelV c u → u = cv) ∧ d = some dd ∧ H dd = some (.xd fs) ∧ PySem.W.kitOne K (.ref D) cv = some b ∧ Q (.bl b) H
theorem call_isX (E : ExcC X.K C) (hz : Zc cls dd oe) (hf : ∃ vs, oe.data = .fields vs) : CallR (X.suite a ((a, oe) :: pn)) (.builtin "isinstance") (rIsX X.K C a cls dd) := by
  intro pins s σ H xs us Q I r h
  obtain ⟨c, cv, b, d', fs, rfl, rfl, hcv, rfl, hd, e, q⟩ := h
  cases r with
  | cons rx rr =>
    cases rr with
    | cons rt rr =>
      cases rr
      cases rx
      have ec := hcv _ rt
      subst ec
      obtain ⟨hget, _⟩ := I.pin (a, oe) (List.mem_append.mpr (.inl List.mem_cons_self))
      obtain ⟨vs, hv⟩ := hf
      have hx : ObjOk X.prog X.w H s.heap d' (.xd fs) := I.hok d' _ hd
      obtain ⟨mA, hns, hr⟩ := hx
      obtain ⟨od, ho, hl⟩ := lookIn_ns hns
      have J : PySem.W.InstAt s.heap a oe C (some od) := ⟨hget, hz.1, by unfold PySem.W.notCls; rw [hv] <;> rfl, by rw [hz.2]; exact ho⟩
      have hcl : (PySem.W.clsIn X.K C).isSome = true := by
        obtain ⟨cd, hc, _⟩ := PySem.W.any_some E.hd
        rw [hc] <;> rfl
      exact PySem.W.kia_one (PySem.W.kitx_exc (od := some od) hcl E.hg E.hk E.hs E.ha E.hn E.ht E.hm) I.kIn J e (fun z => nomatch z) fun tk => ⟨.bl b, H, I.kept (t' := tk) fun _ _ z => z, rfl, q⟩
/-- a test in the suite -/
def tHT (τ : List Addr) (X : Cx) (x : Str) (a : Addr) (i : Nat) (cls : Value) (dd : Option Addr) (f : List (Str × D) → Option Bool) : TT := fun σ H Q =>
  ∃ α F h ex b, HS τ X x a i cls dd σ H α F h ex ∧ f ex.fs = some b ∧ Q b H
theorem ptH_no {e : Expr} {f : List (Str × D) → Option Bool} (h : ∀ fs, f fs = none) : PT (X.suite a ((a, oe) :: pn)) e (tHT τ X x a i cls dd f) := .no fun σ H Q ⟨α, F, hp, ex, b, _, e1, _⟩ => by
  rw [h] at e1
  cases e1
theorem pt_hI (g : Gd τ G call X c k W) (hm : X.mg x = some (.ref C)) (E : ExcC X.K C) (hfi : ∀ p ∈ r.fi, PySem.W.findIn X.K (.ref C) p.1 = some none) (hisa : ∀ y b, r.isa.lookup y = some b → ∃ Cw, X.mg y = some (.ref Cw) ∧ PySem.W.kitOne X.K (.ref C) (.ref Cw) = some b ∧ (y == ("__debug__" : Str)) = false)
    (hn : nameAt c.nm n = some i) (hl : c.sc.names.lookup n = some .local) (hz : Zc cls dd oe) (hf : ∃ vs, oe.data = .fields vs) (e : Expr) :
    PT (X.suite a ((a, oe) :: pn)) e (tHT τ X x a i cls dd fun fs => hI G c r n fs e) := by
  have XF : XfC X.K C := ⟨E.hg, E.hk, E.hs, E.hd⟩
  have hnd : (n == ("__debug__" : Str)) = false ∧ (n == ("__classdict__" : Str)) = false := by
    have hmem := List.mem_of_getElem? (nameAt_get hn)
    exact ⟨ne_beq fun z => g.dbg.1 (z ▸ hmem), ne_beq fun z => g.dbg.2 (z ▸ hmem)⟩
  by_cases h1 : ∃ f pf y py w pw pos, e = .Call (.Name f pf) [.Name y py, .Name w pw] [] pos
  · obtain ⟨f, pf, y, py, w, pw, pos, rfl⟩ := h1
    by_cases hc : f = "isinstance" ∧ isBlt G c f = true ∧ y = n ∧ isGl c.sc w = true
    · obtain ⟨rfl, hb, rfl, hw⟩ := hc
      unfold isBlt at hb
      rw [Bool.and_eq_true, List.contains_iff_mem] at hb
      cases hi : r.isa.lookup w with
      | none =>
        refine ptH_no fun fs => ?_
        have : hI G c r y fs (.Call (.Name "isinstance" pf) [.Name y py, .Name w pw] [] pos) = (if ("isinstance" : Str) = "isinstance" ∧ isBlt G c "isinstance" = true ∧ y = y ∧ isGl c.sc w = true then r.isa.lookup w else none) := rfl
        rw [this, hi]
        split <;> rfl
      | some b =>
        obtain ⟨Cw, m1, k1, d1⟩ := hisa w b hi
        have hN : X.N[i]? = some y := by rw [g.nm]; exact nameAt_get hn
        have hv : Vis X.env.scope y := .inl (by rw [g.sc]; exact hl)
        have pv : PE (X.suite a ((a, oe) :: pn)) (.Name y py) (tVar i) := pe_var (X := X.suite a ((a, oe) :: pn)) hN hv hnd.1 hnd.2
        have pw' : PE (X.suite a ((a, oe) :: pn)) (.Name w pw) (tC (.ref Cw)) := pe_glob (X := X.suite a ((a, oe) :: pn)) (g.gl hw) m1 rfl d1
        refine (pt_truth (pe_callB (X := X.suite a ((a, oe) :: pn)) (call_isX (pn := pn) E hz hf) (g.gl hb.1) (g.top.blts _ hb.2) rfl (pa_cons pv (pa_cons pw' pa_nil)) (by decide) (by decide)) (fun _ => rfl)).imp fun σ H Q ⟨α, F, h, ex, b', ⟨hs, w', ⟨⟨C', d', m2, c1, dd1, f1⟩, im⟩, hx⟩, e1, q⟩ => ?_
        have e1 : (if ("isinstance" : Str) = "isinstance" ∧ isBlt G c "isinstance" = true ∧ y = y ∧ isGl c.sc w = true then r.isa.lookup w else none) = some b' := e1
        rw [if_pos ⟨rfl, by unfold isBlt; rw [Bool.and_eq_true, List.contains_iff_mem]; exact hb, rfl, hw⟩, hi] at e1
        cases e1
        rw [hx, hm] at m2
        cases m2
        exact ⟨.ref a, hs, .ref Cw, .ref Cw, b, d', _, rfl, c1, fun u ru => ru, dd1, w'.sub _ _ f1, k1, b, rfl, q⟩
    · refine ptH_no fun fs => ?_
      have : hI G c r n fs (.Call (.Name f pf) [.Name y py, .Name w pw] [] pos) = (if f = "isinstance" ∧ isBlt G c f = true ∧ y = n ∧ isGl c.sc w = true then r.isa.lookup w else none) := rfl
      rw [this, if_neg hc]
  · by_cases h2 : ∃ f pf y py gg pg w pw pos, e = .Call (.Name f pf) [.Attribute (.Name y py) gg pg, .Name w pw] [] pos
    · obtain ⟨f, pf, y, py, gg, pg, w, pw, pos, rfl⟩ := h2
      by_cases hc : f = "isinstance" ∧ isBlt G c f = true ∧ isBlt G c w = true ∧ (w = "str" ∨ w = "int")
      · obtain ⟨rfl, hb, hb2, hw⟩ := hc
        have hb0 := hb
        have hb20 := hb2
        unfold isBlt at hb hb2
        rw [Bool.and_eq_true, List.contains_iff_mem] at hb hb2
        obtain ⟨T, hT, hTb, hTw⟩ : ∃ T : String, (if w = "str" then "str" else "int") = T ∧ bootBuiltins w = some (.type T) ∧ (T = "str" ∨ T = "int") := by
          rcases hw with rfl | rfl
          · exact ⟨"str", rfl, rfl, .inl rfl⟩
          · exact ⟨"int", rfl, rfl, .inr rfl⟩
        have wn : w ≠ "__name__" ∧ (w == ("__debug__" : Str)) = false := by rcases hw with rfl | rfl <;> exact ⟨by decide, by decide⟩
        have pw' : PE (X.suite a ((a, oe) :: pn)) (.Name w pw) (tC (.ty T)) := pe_bltn (X := X.suite a ((a, oe) :: pn)) (g.gl hb2.1) (g.top.blts _ hb2.2) hTb rfl wn.1 wn.2
        refine (pt_truth (pe_callB (X := X.suite a ((a, oe) :: pn)) call_isi (g.gl hb.1) (g.top.blts _ hb.2) rfl (pa_cons (pe_h (pn := pn) g hm XF hfi hn hl hz hf _) (pa_cons pw' pa_nil)) (by decide) (by decide)) (fun _ => rfl)).imp fun σ H Q ⟨α, F, h, ex, b', hs, e1, q⟩ => ?_
        have e1 : (if ("isinstance" : Str) = "isinstance" ∧ isBlt G c "isinstance" = true ∧ isBlt G c w = true ∧ (w = "str" ∨ w = "int") then (hE r.fi n ex.fs (.Attribute (.Name y py) gg pg)).bind fun d => (tyD d []).bind fun t => isTy t (if w = "str" then "str" else "int") else none) = some b' := e1
        rw [if_pos ⟨rfl, hb0, hb20, hw⟩, hT] at e1
        obtain ⟨d0, e2, e3⟩ := Option.bind_eq_some_iff.mp e1
        obtain ⟨t, e4, e5⟩ := Option.bind_eq_some_iff.mp e3
        have im := hE_imm hs.2.2.1.im e2
        have w' := hs.2.1
        have e4' : tyD d0 h = some t := by
          cases d0 <;> first | exact e4 | cases im
        exact ⟨α, F, h, ex, d0, hs, e2, _, _, _, _, _, rfl, .ty _, tyD_ok w' (imm_rd im) e4', kit_ty (isTy_ok e5), b', rfl, q⟩
      · refine ptH_no fun fs => ?_
        have : hI G c r n fs (.Call (.Name f pf) [.Attribute (.Name y py) gg pg, .Name w pw] [] pos) = (if f = "isinstance" ∧ isBlt G c f = true ∧ isBlt G c w = true ∧ (w = "str" ∨ w = "int") then
          (hE r.fi n fs (.Attribute (.Name y py) gg pg)).bind fun d => (tyD d []).bind fun t => isTy t (if w = "str" then "str" else "int") else none) := rfl
        rw [this, if_neg hc]
    · refine ptH_no fun fs => ?_
      exact hI_none h1 h2
theorem pw_hB {op : BoolOp} {pos : Pos} {f : Expr → List (Str × D) → Option Bool} (ih : ∀ e, PT (X.suite a ((a, oe) :: pn)) e (tHT τ X x a i cls dd (f e))) : ∀ es : List Expr, es.isEmpty = false → PW (X.suite a ((a, oe) :: pn)) (.BoolOp op es pos) (tHT τ X x a i cls dd fun fs => hB op (fun e => f e fs) es)
  | [], h => by cases h
  | [e], _ => by
    cases op with
    | And => exact (pw_and1 (ih e)).imp fun σ H Q p => p
    | Or => exact (pw_or1 (ih e)).imp fun σ H Q p => p
  | e :: e2 :: r', _ => by
    have hb := pw_hB (pos := pos) (op := op) ih (e2 :: r') rfl
    cases op with
    | And =>
      refine (pw_and (ih e) hb).imp fun σ H Q ⟨α, F, h, ex, b, hs, e1, q⟩ => ?_
      obtain ⟨b1, e2', e3⟩ := Option.bind_eq_some_iff.mp e1
      refine ⟨α, F, h, ex, b1, hs, e2', ?_⟩
      cases b1 with
      | true => exact iteT ⟨α, F, h, ex, b, hs, e3, q⟩
      | false => cases e3; exact iteF q
    | Or =>
      refine (pw_or (ih e) hb).imp fun σ H Q ⟨α, F, h, ex, b, hs, e1, q⟩ => ?_
      obtain ⟨b1, e2', e3⟩ := Option.bind_eq_some_iff.mp e1
      refine ⟨α, F, h, ex, b1, hs, e2', ?_⟩
      cases b1 with
      | true => cases e3; exact iteT q
      | false => exact iteF ⟨α, F, h, ex, b, hs, e3, q⟩
theorem pt_hT (g : Gd τ G call X c k W) (hm : X.mg x = some (.ref C)) (E : ExcC X.K C) (hfi : ∀ p ∈ r.fi, PySem.W.findIn X.K (.ref C) p.1 = some none) (hisa : ∀ y b, r.isa.lookup y = some b → ∃ Cw, X.mg y = some (.ref Cw) ∧ PySem.W.kitOne X.K (.ref C) (.ref Cw) = some b ∧ (y == ("__debug__" : Str)) = false)
    (hn : nameAt c.nm n = some i) (hl : c.sc.names.lookup n = some .local) (hz : Zc cls dd oe) (hf : ∃ vs, oe.data = .fields vs) : ∀ (m : Nat) (e : Expr), PT (X.suite a ((a, oe) :: pn)) e (tHT τ X x a i cls dd fun fs => hT G c r n fs m e)
  | 0, e => ptH_no fun fs => rfl
  | m + 1, e => by
    have ih := pt_hT g hm E hfi hisa hn hl hz hf m
    have pl : (∀ fs, hT G c r n fs (m + 1) e = hI G c r n fs e) → PT (X.suite a ((a, oe) :: pn)) e (tHT τ X x a i cls dd fun fs => hT G c r n fs (m + 1) e) := fun h => by
      have : (fun fs => hT G c r n fs (m + 1) e) = fun fs => hI G c r n fs e := funext h
      rw [this]
      exact pt_hI g hm E hfi hisa hn hl hz hf e
    cases e with
    | UnaryOp op t pos =>
      cases op with
      | Not =>
        refine (pt_not (ih t)).imp fun σ H Q ⟨α, F, h, ex, b, hs, e1, q⟩ => ?_
        obtain ⟨b1, e2, rfl⟩ := Option.map_eq_some_iff.mp (show (hT G c r n ex.fs m t).map (!·) = some b from e1)
        exact ⟨α, F, h, ex, b1, hs, e2, q⟩
      | _ => exact pl fun fs => rfl
    | BoolOp op es pos =>
      cases es with
      | nil => exact ptH_no fun fs => rfl
      | cons e0 es => exact (pw_hB (f := fun e fs => hT G c r n fs m e) ih (e0 :: es) rfl).pt
    | _ => exact pl fun fs => rfl
/-- what the suite gives back -/
def tHV (τ : List Addr) (X : Cx) (x : Str) (a : Addr) (i : Nat) (cls : Value) (dd : Option Addr) (f : List (Str × D) → Option D) : TE := fun σ H Q =>
  ∃ α F h ex d0, HS τ X x a i cls dd σ H α F h ex ∧ f ex.fs = some d0 ∧ ∀ α' F' H' v, Ext α F H α' F' H' → Wd τ X.K α' F' H' h → RD X.K α' F' d0 v → Q v H'
theorem pe_hR (g : Gd τ G call X c k W) (hm : X.mg x = some (.ref C)) (E : ExcC X.K C) (hfi : ∀ p ∈ r.fi, PySem.W.findIn X.K (.ref C) p.1 = some none) (hisa : ∀ y b, r.isa.lookup y = some b → ∃ Cw, X.mg y = some (.ref Cw) ∧ PySem.W.kitOne X.K (.ref C) (.ref Cw) = some b ∧ (y == ("__debug__" : Str)) = false)
    (hn : nameAt c.nm n = some i) (hl : c.sc.names.lookup n = some .local) (hz : Zc cls dd oe) (hf : ∃ vs, oe.data = .fields vs) : ∀ (m : Nat) (e : Expr), PE (X.suite a ((a, oe) :: pn)) e (tHV τ X x a i cls dd fun fs => hR G c r n fs m e)
  | 0, e => .no fun σ H Q ⟨α, F, h, ex, d0, hs, e1, q⟩ => by cases e1
  | m + 1, e => by
    have ih := pe_hR g hm E hfi hisa hn hl hz hf m
    have XF : XfC X.K C := ⟨E.hg, E.hk, E.hs, E.hd⟩
    have one : (∀ fs, hR G c r n fs (m + 1) e = hE r.fi n fs e) → PE (X.suite a ((a, oe) :: pn)) e (tHV τ X x a i cls dd fun fs => hR G c r n fs (m + 1) e) := fun he =>
      (pe_h (pn := pn) g hm XF hfi hn hl hz hf e).imp fun σ H Q ⟨α, F, h, ex, d0, hs, e1, q⟩ => by
        have e1 : hE r.fi n ex.fs e = some d0 := by rw [← he]; exact e1
        exact ⟨α, F, h, ex, d0, hs, e1, q α F H d0.v Ext.refl hs.2.1 (imm_rd (hE_imm hs.2.2.1.im e1))⟩
    cases e with
    | Tuple es j p =>
      by_cases hst : es.any isStar = true ∨ es.length > 1000
      · refine .no fun σ H Q ⟨α, F, h, ex, d0, hs, e1, q⟩ => ?_
        have e1 : (if es.any isStar || decide (es.length > 1000) then none else (hEs r.fi n ex.fs es).map (fun l => Bk.D.tup l)) = some d0 := e1
        rw [if_pos (by simpa using hst)] at e1
        cases e1
      · rw [not_or] at hst
        refine (pe_tup (pa_h (pn := pn) g hm XF hfi hn hl hz hf es (by simpa using hst.1))).imp fun σ H Q ⟨α, F, h, ex, d0, hs, e1, q⟩ => ?_
        have e1 : (if es.any isStar || decide (es.length > 1000) then none else (hEs r.fi n ex.fs es).map (fun l => Bk.D.tup l)) = some d0 := e1
        rw [if_neg (by simpa using hst)] at e1
        obtain ⟨ds, e2, rfl⟩ := Option.map_eq_some_iff.mp e1
        obtain ⟨im, hlen⟩ := hEs_imm hs.2.2.1.im e2
        refine ⟨α, F, h, ex, ds, hs, e2, ?_, fun p hp => ?_⟩
        · rw [List.length_map, hlen, sizeLine_eq]
          omega
        · obtain ⟨w', x', e'⟩ := hs.2.1.newF hp (.tup (ds.map Bk.D.v))
          exact q _ _ _ _ x' w' (.tup (SqT.of e') (imm_rds im))
    | IfExp t ea eb p =>
      refine (pe_ifExp (pt_hT (pn := pn) g hm E hfi hisa hn hl hz hf 4 t) (ih ea) (ih eb)).imp fun σ H Q ⟨α, F, h, ex, d0, hs, e1, q⟩ => ?_
      obtain ⟨b, e2, e3⟩ := Option.bind_eq_some_iff.mp (show (hT G c r n ex.fs 4 t).bind (fun q => if q then hR G c r n ex.fs m ea else hR G c r n ex.fs m eb) = some d0 from e1)
      refine ⟨α, F, h, ex, b, hs, e2, ?_⟩
      cases b with
      | true => exact iteT ⟨α, F, h, ex, d0, hs, e3, q⟩
      | false => exact iteF ⟨α, F, h, ex, d0, hs, e3, q⟩
    | _ => exact one fun fs => rfl
def tHR (τ : List Addr) (X : Cx) (x : Str) (i : Nat) (f : List (Str × D) → Option D) (a : Addr) (cls : Value) (dd : Option Addr) : TS := fun D σ H =>
  ∃ α F h ex d0, HS τ X x a i cls dd σ H α F h ex ∧ f ex.fs = some d0 ∧ ∀ α' F' H' v, Ext α F H α' F' H' → Wd τ X.K α' F' H' h → RD X.K α' F' d0 v → D.rt v H'
theorem pss_h (g : Gd τ G call X c k W) (hm : X.mg x = some (.ref C)) (E : ExcC X.K C) (hfi : ∀ p ∈ r.fi, PySem.W.findIn X.K (.ref C) p.1 = some none) (hisa : ∀ y b, r.isa.lookup y = some b → ∃ Cw, X.mg y = some (.ref Cw) ∧ PySem.W.kitOne X.K (.ref C) (.ref Cw) = some b ∧ (y == ("__debug__" : Str)) = false)
    (hn : nameAt c.nm n = some i) (hl : c.sc.names.lookup n = some .local) (hz : Zc cls dd oe) (hf : ∃ vs, oe.data = .fields vs) : ∀ sts : List Stmt, PSs (X.suite a ((a, oe) :: pn)) sts (tHR τ X x i (fun fs => hS G c r n fs sts) a cls dd)
  | [] => ⟨fun pins s σ H D I ⟨α, F, h, ex, d0, hs, e1, q⟩ => by cases e1⟩
  | st :: rest => by
    have no : (∀ fs, hS G c r n fs (st :: rest) = none) → PSs (X.suite a ((a, oe) :: pn)) (st :: rest) (tHR τ X x i (fun fs => hS G c r n fs (st :: rest)) a cls dd) := fun hno => ⟨fun pins s σ H D I ⟨α, F, h, ex, d0, hs, e1, q⟩ => by
      have e1 : hS G c r n ex.fs (st :: rest) = some d0 := e1
      rw [hno] at e1
      cases e1⟩
    by_cases h1 : ∃ e p, st = .Return (some e) p ∧ rest = []
    · obtain ⟨e, p, rfl, rfl⟩ := h1
      exact (pss_cons (ps_ret (pe_hR (pn := pn) g hm E hfi hisa hn hl hz hf 4 e)) pss_nil).imp fun D σ H ⟨α, F, h, ex, d0, hs, e1, q⟩ => ⟨α, F, h, ex, d0, hs, e1, q⟩
    · by_cases h2 : ∃ t e p p2, st = .If t [.Return (some e) p] [] p2
      · obtain ⟨t, e, p, p2, rfl⟩ := h2
        refine (pss_cons (ps_if (pt_hT (pn := pn) g hm E hfi hisa hn hl hz hf 4 t) (pss_cons (ps_ret (pe_hR (pn := pn) g hm E hfi hisa hn hl hz hf 4 e)) pss_nil) pss_nil) (pss_h g hm E hfi hisa hn hl hz hf rest)).imp fun D σ H ⟨α, F, h, ex, d0, hs, e1, q⟩ => ?_
        obtain ⟨b, e2, e3⟩ := Option.bind_eq_some_iff.mp (show (hT G c r n ex.fs 4 t).bind (fun q => if q then hR G c r n ex.fs 4 e else hS G c r n ex.fs rest) = some d0 from e1)
        refine ⟨α, F, h, ex, b, hs, e2, ?_⟩
        cases b with
        | true => exact iteT ⟨α, F, h, ex, d0, hs, e3, q⟩
        | false => exact iteF ⟨α, F, h, ex, d0, hs, e3, q⟩
      · refine no fun fs => ?_
        unfold hS
        split
        · rename_i heq
          cases heq
          exact absurd ⟨_, _, rfl, rfl⟩ h1
        · rename_i heq
          cases heq
          exact absurd ⟨_, _, _, _, rfl⟩ h2
        · rfl
theorem ps_tryD (sb : ∀ X c W, Gd τ G call X c k W → ∀ b, PSs X b (tS τ X.K X.mg W (S.b c b))) (g : Gd τ G call X c k W) {body suite : List Stmt} {np p2 pos : Pos} :
    PS X (.Try body [.ExceptHandler (some (.Name x np)) (some n) suite p2] [] [] pos) (tS τ X.K X.mg W (tryE G S c body x n suite)) := by
  refine ⟨fun pins s σ H D I h => ?_⟩
  obtain ⟨α, F, h0, sl, a, q⟩ := h
  unfold tryE at q
  split at q
  · rename_i hc
    rw [Bool.and_eq_true, Bool.and_eq_true, Bool.and_eq_true, decide_eq_true_iff] at hc
    obtain ⟨⟨⟨hb, hg⟩, hl⟩, hsu⟩ := hc
    split at q
    · rename_i i r hn hr
      obtain ⟨C, fI, fd, ps, hm, T, E, iC, tI, F1, hbn, hpl, hfi, hsub, hisa, hdb, hnm⟩ := g.top.excs x r hr
      obtain ⟨hs, hf⟩ := g.stk (by simpa using hb)
      have hN : X.N.Nodup := by rw [g.nm]; exact g.nd
      have hi : X.N[i]? = some n := by rw [g.nm]; exact nameAt_get hn
      have hln : X.env.kindOf n = some .local := by
        show X.env.scope.names.lookup n = _
        rw [g.sc]; exact hl
      cases suite with
      | nil => cases hsu
      | cons b0 suite =>
      refine (ps_try_as (c := .ref C) (ts := tHR τ X x i (fun fs => hS G c r n fs (b0 :: suite))) (tb := fun W' => tS τ X.K X.mg W' (S.b c body)) hs hf hN hi hln ⟨g.gl hg, hdb, .inl hm⟩ g.tk (fun W' pn xe tk po => ?_) (fun a oe cls d pn hz hd => ?_)).run pins s σ H D I ?_
      · exact sb (X.tr pn xe) c W' ⟨g.calm, g.nm, g.nd, g.dbg, g.sc, g.kind, g.room, g.fn, tk, po, g.stk, g.top, g.gen⟩ body
      · exact pss_h g hm E (fun p hp => (hfi p hp).2) hisa hn hl hz hd (b0 :: suite)
      · refine ⟨α, F, h0, sl, a, ?_⟩
        revert q
        generalize S.b c body sl h0 = o
        intro q
        cases o with
        | next s' h' => exact q
        | ret d h' => exact q
        | brk s' h' => exact q
        | cont s' h' => exact q
        | bad => exact q
        | exc ex s1 h1 =>
          intro α' F' H' σ' cls dd x' a' rx
          have q : OP τ X.K X.mg W α F H (if ex.cls = x ∧ i < s1.length then match hS G c r n ex.fs (b0 :: suite) with
              | some d => Out.ret d h1
              | none => .bad
            else .bad) D := q
          split at q
          · rename_i hci
            split at q
            · rename_i d0 hd0
              obtain ⟨⟨C', d', m1, c1, d1, f1⟩, im⟩ := id rx
              rw [hci.1, hm] at m1
              cases m1
              refine ⟨true, ?_, fun _ b hnb => ?_, fun h => nomatch h⟩
              · rw [c1]
                exact PySem.W.exm_ref E.hs E.hd T.tyC hsub
              · refine ⟨α', F', h1, ex, d0, ⟨?_, a'.1, rx, hci.1⟩, hd0, fun α2 F2 H2 v y w rv => q α2 F2 H2 v (x'.trans y) w rv⟩
                rw [List.getElem?_set_self (by rw [← a'.2.1]; exact hci.2)]
            · exact q.elim
          · exact q.elim
    · exact q.elim
  · exact q.elim
end
end
end Bk

/-! BkDcR: dicts: displays, subscripts, methods. -/
namespace Bk
open PySem PySem.Spec PyProof.Rows L2
section
variable {G : Cfg} {call : Str → List D → Hs → Res D} {X : Cx} {c : Ctx} {k : Nat} {W : WX} {S : Sm}
theorem pe_dix (g : Gd τ G call X c k W) {a b : Expr} {pos : Pos} {fa fb : Sl → Hs → Res D} (hs : isSlice b = false) (ha : PE X a (tE τ X.K X.mg W fa)) (hb : PE X b (tE τ X.K X.mg W fb)) :
    PE X (.Subscript a b pos) (tE τ X.K X.mg W fun s h => (fa s h).bind fun x h1 => (fb s h1).bind fun y h2 => dixD x y h2) := by
  refine (pe_ix (dix_D (τ := τ) (mg := X.mg) rfl g.hu) ha hb (plainIx hs)).imp fun σ H Q p => ?_
  refine tR.seq p fun α F H h s d x a r p => ?_
  refine RP.seq (rel := RD X.K) a p fun α' F' H' h' e y x' a' r' p => ?_
  exact ⟨_, _, _, _, _, _, a'.1, x'.rd r, r', p⟩
def newDc (t : Bool) (h : Hs) : Res D := match h with
  | top :: rest => .ok (.loc rest.length top.length) ((top ++ [if t then .dt [] else .dk []]) :: rest)
  | [] => .bad
theorem pe_dict (g : Gd τ G call X c k W) (t : Bool) (pos : Pos) : PE X (.Dict [] [] pos) (tE τ X.K X.mg W fun s h => newDc t h) := by
  refine ⟨fun pins s σ H Q I p => ?_⟩
  obtain ⟨α, F, h, sl, a, p⟩ := p
  cases h with
  | nil => exact p.elim
  | cons top rest =>
    cases α with
    | nil => exact absurd a.1.len (by simp)
    | cons at_ ar =>
      cases t with
      | true =>
        refine dt_new I fun q s' hq I' => ?_
        obtain ⟨w', x', e'⟩ := a.1.newL hq (o := .dt []) (RO.dt .nil) rfl
        exact ⟨.ref q, _, I', rfl, p _ _ _ _ x' w' (.loc e')⟩
      | false =>
        refine wpAny_Dict_empty ⟨.ref s.heap.objs.size, _, I.laid (a := s.heap.objs.size) (o := .dK []) (t' := s.toks) (fun _ _ q => Heap.get?_push_of_some _ q) (Nat.le_refl _) (dk_empty s.heap I.big), rfl, ?_⟩
        obtain ⟨w', x', e'⟩ := a.1.newL (I.hok.fresh (Nat.le_refl s.heap.objs.size)) (o := .dk []) (RO.dk .nil) rfl
        exact p _ _ _ _ x' w' (.loc e')
theorem dc_type {α : Al} {F H : Hp} {h : Hs} {d : D} {v : V} {u : Value} {σ : L2.St} {s : Shared} {pins : List (Addr × Obj)} (I : L2.Inv X pins σ H s) (w : Wd τ X.K α F H h) (r : RD X.K α F d v) (rv : RelV v u) (e : (dcAt d h).isSome = true) :
    s.TypeIs u "dict" ∧ ∀ b, u = .ref b → ∃ ob, s.heap.get? b = some ob ∧ ob.dict = none := by
  obtain ⟨⟨l, k, o⟩, he⟩ := Option.isSome_iff_exists.mp e
  obtain ⟨a, uo, rfl, hg, nd, ga, hF, hH, ro, hk⟩ := dcAt_live w r he
  obtain rfl : u = Value.ref a := rv
  rcases hk with ⟨kvs, rfl⟩ | ⟨kvs, rfl⟩
  · cases ro with
    | dk rv =>
      have g := DGet.k (k := (.inl 0 : Key)) hH
      exact ⟨dict_typeIs I g, dict_noDict I g⟩
  · cases ro with
    | dt rv => exact ⟨dt_type I hH, dt_noDict I hH⟩
theorem pe_dm (g : Gd τ G call X c k W) {o e : Expr} {m : Str} {ap pos : Pos} {es : List Expr} {q : Dm} {fo : Sl → Hs → Res D} {ev : Expr → Sl → Hs → Res D} (ih : ∀ e, PE X e (tE τ X.K X.mg W (ev e))) (h0 : isCall0 o = false) (h1 : (ap.endLine == pos.line) = true) (h2 : ¬ (e :: es).length ≥ 29) (h3 : (e :: es).any isStar = false) (hq : dmOf m = some q)
    (ho : PE X o (tE τ X.K X.mg W fo)) :
    PE X (.Call (.Attribute o m ap) (e :: es) [] pos) (tE τ X.K X.mg W fun s h => (fo s h).bind fun x h1 => if (dcAt x h1).isSome then (argsE ev (e :: es) s h1).bind fun ys h2 => dmD q x ys h2 else .bad) := by
  have hm := dmOf_name hq
  subst hm
  rw [List.any_cons, Bool.or_eq_false_iff] at h3
  refine ⟨fun pins s σ H Q I p => ?_⟩
  have p1 : tE τ X.K X.mg W fo σ H (fun x H1 => ∃ α F h s1 d, At τ X.K α F H1 h s1 σ ∧ RD X.K α F d x ∧ (dcAt d h).isSome = true ∧ RP τ X.K X.mg (fun c d H => W c d σ H) (RD X.K) α F H1 ((argsE ev (e :: es) s1 h).bind fun ys h2 => dmD q d ys h2) Q) := by
    refine tR.seq p fun α F H h s d x a r p => ?_
    split at p
    · rename_i hs
      exact ⟨α, F, h, s, d, a, r, hs, p⟩
    · exact p.elim
  refine wpAny_Call_method_late (attrBase h0) (few_ok (by rw [List.any_cons, Bool.or_eq_false_iff]; exact h3) h2) h1 rfl (thn (ho.run pins s σ H _ I p1) fun v s1 ⟨x, H1, I1, r1, α, F, h, sl, d, a, rd, hd, p2⟩ => ?_)
  obtain ⟨t1, t2⟩ := dc_type I1 a.1 rd r1 hd
  refine ⟨"dict", q.id, PySem.F.plainAttrs_dict, slot_dm q, type_dm q, t1, t2, ?_⟩
  have ha := pa_args g ih (e :: es)
  have q2 : tR τ X.K X.mg W (RDs X.K) (argsE ev (e :: es)) σ H1 (fun vs H2 => rDm τ X.K X.mg q x vs H2 Q) :=
    RP.seq (rel := RDs X.K) (f := argsE ev (e :: es)) a p2 fun α' F' H' h' ds vs x' a' rs p => ⟨_, _, _, _, _, _, a'.1, x'.rd rd, rs, p⟩
  have hA := ha.run pos pins s1 σ H1 _ I1 q2
  rw [starEach_cons h3.1] at hA ⊢
  refine Calls.callWith_builtin (by show (false || (backTo pos (starEach es X.env)).any (·.1)) = false; rw [noStar h3.2] <;> rfl) (Calls.evalArgs_plain ?_)
  exact thn hA fun us s2 ⟨vs, H2, I2, r2, q3⟩ => dm_ok rfl g.hu q I2 r1 r2 q3
end
end Bk

/-! BkEnd: the evaluator is sound, from the parts to a law's end. -/
namespace Bk
open PySem PySem.Spec PyProof.Rows L2
/-- calls with a wrong number of values are not told -/
def Ar (G : Cfg) (call : Str → List D → Hs → Res D) : Prop := ∀ x r, G.defs.lookup x = some r → ∀ ds h, ds.length ≠ r.ps.length → call x ds h = .bad
structure SmOk (τ : List Addr) (G : Cfg) (call : Str → List D → Hs → Res D) (k : Nat) (S : Sm) : Prop where
  e : ∀ X c W, Gd τ G call X c k W → ∀ e, PE X e (tE τ X.K X.mg W (S.e c e))
  t : ∀ X c W, Gd τ G call X c k W → ∀ e, PT X e (tT τ X.K X.mg W (S.t c e))
  b : ∀ X c W, Gd τ G call X c k W → ∀ b, PSs X b (tS τ X.K X.mg W (S.b c b))
section
variable {G : Cfg} {call : Str → List D → Hs → Res D} {X : Cx} {c : Ctx} {k : Nat} {W : WX} {S : Sm}
theorem no_e {e : Expr} {f : Sl → Hs → Res D} (h : ∀ s h, f s h = .bad) : PE X e (tE τ X.K X.mg W f) := .no fun σ H Q => tR_bad h
theorem callE0_ok (ar : Ar G call) (g : Gd τ G call X c k W) (ih : ∀ e, PE X e (tE τ X.K X.mg W (S.e c e))) (x : Str) (es : List Expr) (p pos : Pos) : PE X (.Call (.Name x p) es [] pos) (tE τ X.K X.mg W (callE0 G call S c x es pos)) := by
  cases h1 : (es.isEmpty || es.any isStar) with
  | true => exact no_e fun s h => by unfold callE0; rw [if_pos h1]
  | false =>
    rw [Bool.or_eq_false_iff] at h1
    have h1' : ¬ (es.isEmpty || es.any isStar) = true := by rw [h1.1, h1.2]; simp
    cases h2 : isGl c.sc x with
    | false => exact no_e fun s h => by unfold callE0; rw [if_neg h1', h2]; rfl
    | true =>
      cases h3 : (G.defs.lookup x).isSome with
      | true =>
        have e : callE0 G call S c x es pos = fun s h => (argsE (S.e c) es s h).bind (call x) := by funext s h; unfold callE0; rw [if_neg h1', if_pos h2, if_pos h3]
        rw [e]
        exact pe_user g h2 h3 h1.1 h1.2 (pa_args g ih es) (ar x)
      | false =>
        have h3' : ¬ (G.defs.lookup x).isSome = true := by rw [h3]; simp
        cases h4 : G.blts.contains x with
        | false => exact no_e fun s h => by unfold callE0; rw [if_neg h1', if_pos h2, if_neg h3', h4]; rfl
        | true =>
          have hm : x ∈ G.blts := List.contains_iff_mem.mp h4
          by_cases h5 : x = "isinstance"
          · subst h5
            by_cases h6 : ∃ a ts j tp, es = [a, .Tuple ts j tp]
            · obtain ⟨a, ts, j, tp, rfl⟩ := h6
              have e : callE0 G call S c "isinstance" [a, .Tuple ts j tp] pos = fun s h => (S.e c a s h).bind fun v h1 => (argsE (S.e c) ts s h1).bind fun us h2 => match (tyD v h2).bind fun t => isTys t us with
                  | some b => if us.length ≤ sizeLine then .ok (.bl b) h2 else .bad
                  | none => .bad := by funext s h; unfold callE0; rw [if_neg h1', if_pos h2, if_neg h3', if_pos h4, if_pos rfl] <;> rfl
              rw [e]
              refine pe_isTup g h2 hm ?_ (ih a) (pa_args g ih ts)
              have := h1.2
              rw [List.any_cons, Bool.or_eq_false_iff] at this
              exact this.1
            · have e : callE0 G call S c "isinstance" es pos = fun s h => (argsE (S.e c) es s h).bind (bltD (G.isLoc pos) .isinstance) := by
                funext s h; unfold callE0; rw [if_neg h1', if_pos h2, if_neg h3', if_pos h4, if_pos rfl]
                split
                · exact absurd ⟨_, _, _, _, rfl⟩ h6
                · rfl
              rw [e]
              exact pe_blt g (G.isLoc pos) h2 hm rfl h1.1 h1.2 (pa_args g ih es)
          · cases h7 : bltOf x with
            | none => exact no_e fun s h => by unfold callE0; rw [if_neg h1', if_pos h2, if_neg h3', if_pos h4, if_neg h5, h7]
            | some b =>
              have e : callE0 G call S c x es pos = fun s h => (argsE (S.e c) es s h).bind (bltD (G.isLoc pos) b) := by
                funext s h; unfold callE0; rw [if_neg h1', if_pos h2, if_neg h3', if_pos h4, if_neg h5, h7]
              rw [e]
              exact pe_blt g (G.isLoc pos) h2 hm (bltOf_boot h7) h1.1 h1.2 (pa_args g ih es)
theorem callE_ok (ar : Ar G call) (g : Gd τ G call X c k W) (ih : ∀ e, PE X e (tE τ X.K X.mg W (S.e c e))) (x : Str) (es : List Expr) (p pos : Pos) : PE X (.Call (.Name x p) es [] pos) (tE τ X.K X.mg W (callE G call S c x es pos)) := by
  cases h : genOf es with
  | some gx =>
    have e : callE G call S c x es pos = genC G S c x gx := by funext s hp; unfold callE; rw [h]
    rw [e]
    exact pe_gen g ih x p pos h
  | none =>
    cases h2 : setOf es with
    | some a =>
      have e : callE G call S c x es pos = setC G S c x a pos := by funext s hp; unfold callE; rw [h, h2]
      rw [e]
      exact pe_set g ih x p pos h2
    | none =>
      cases h3 : rngOf es with
      | some a =>
        have e : callE G call S c x es pos = rngC G S c x a pos := by funext s hp; unfold callE; rw [h, h2, h3]
        rw [e]
        exact pe_rng g ih x p pos h3
      | none =>
        have e : callE G call S c x es pos = callE0 G call S c x es pos := by funext s hp; unfold callE; rw [h, h2, h3]
        rw [e]
        exact callE0_ok ar g ih x es p pos
theorem stepE_ok (ar : Ar G call) (so : SmOk τ G call k S) (g : Gd τ G call X c k W) (e : Expr) : PE X e (tE τ X.K X.mg W (stepE G call S c e)) := by
  have ih := so.e X c W g
  have iht := so.t X c W g
  cases e with
  | Constant v j pos =>
    cases v with
    | int i => exact pe_int.imp fun σ H Q p => tR.ok (g := fun _ => D.int i) p (fun s h => rfl) fun α F h s a => .int i
    | none => exact pe_non.imp fun σ H Q p => tR.ok (g := fun _ => D.non) p (fun s h => rfl) fun α F h s a => .non
    | bool b => exact pe_bl.imp fun σ H Q p => tR.ok (g := fun _ => D.bl b) p (fun s h => rfl) fun α F h s a => .bl b
    | str x => exact pe_str.imp fun σ H Q p => tR.ok (g := fun _ => D.str x) p (fun s h => rfl) fun α F h s a => .str x
    | _ => exact no_e fun s h => rfl
  | Name x pos => exact pe_name g
  | BinOp a op b pos => exact pe_bin g (G.isLoc pos) (ih a) (ih b)
  | UnaryOp op a pos =>
    cases op with
    | USub => exact pe_neg g (ih a)
    | Not => exact pe_notD g (ih a)
    | _ => exact no_e fun s h => rfl
  | BoolOp op es pos => exact pe_bool g ih es
  | Compare a ops es pos =>
    cases h : (ops.isEmpty || es.any isSet || ops.length != es.length) with
    | true => exact no_e fun s h' => by show (if (ops.isEmpty || es.any isSet || ops.length != es.length) = true then Res.bad else _) = _; rw [if_pos h]
    | false =>
      rw [Bool.or_eq_false_iff, Bool.or_eq_false_iff] at h
      have h' : ¬ (ops.isEmpty || es.any isSet || ops.length != es.length) = true := by rw [h.1.1, h.1.2, h.2]; simp
      have e : stepE G call S c (.Compare a ops es pos) = fun s h => (S.e c a s h).bind fun x h1 => chainE (S.e c) x ops es s h1 := by
        funext s h0
        show (if (ops.isEmpty || es.any isSet || ops.length != es.length) = true then Res.bad else _) = _
        rw [if_neg h']
      rw [e]
      exact pe_compare g ih h.1.1 h.1.2 (by simpa using h.2)
  | IfExp t a b pos => exact pe_if g (iht t) (ih a) (ih b)
  | Tuple es j pos => exact pe_tuple g (pa_args g ih es)
  | List es pos => exact pe_list g (G.isLoc pos) (pa_args g ih es)
  | Subscript a b pos =>
    cases hs : isSlice b with
    | false =>
      have e0 : stepE G call S c (.Subscript a b pos) = fun s h => if G.isDix pos then (S.e c a s h).bind fun x h1 => (S.e c b s h1).bind fun y h2 => dixD x y h2 else (S.e c a s h).bind fun x h1 => (S.e c b s h1).bind fun y h2 => ixD x y h2 := by
        funext s h
        cases b <;> first | rfl | cases hs
      cases hdx : G.isDix pos with
      | false =>
        have e : stepE G call S c (.Subscript a b pos) = fun s h => (S.e c a s h).bind fun x h1 => (S.e c b s h1).bind fun y h2 => ixD x y h2 := by
          rw [e0]; funext s h; rw [hdx, if_neg Bool.false_ne_true]
        rw [e]
        exact pe_sub g hs (ih a) (ih b)
      | true =>
        have e : stepE G call S c (.Subscript a b pos) = fun s h => (S.e c a s h).bind fun x h1 => (S.e c b s h1).bind fun y h2 => dixD x y h2 := by
          rw [e0]; funext s h; rw [hdx, if_pos rfl]
        rw [e]
        exact pe_dix g hs (ih a) (ih b)
    | true =>
      cases b with
      | Slice lo hi st p2 =>
        cases st with
        | none => exact pe_cut g (G.isLoc pos) (ih a) (po_part g ih lo) (po_part g ih hi)
        | some st =>
          cases lo with
          | some lo => exact no_e fun s h => rfl
          | none => cases hi with
            | some hi => exact no_e fun s h => rfl
            | none =>
              cases hm : isM1 st with
              | false => exact no_e fun s h => by show (if isM1 st = true then _ else Res.bad) = Res.bad; rw [hm]; rfl
              | true =>
                have e : stepE G call S c (.Subscript a (.Slice none none (some st) p2) pos) = fun s h => (S.e c a s h).bind (revD (G.isLoc pos)) := by
                  funext s h
                  show (if isM1 st = true then _ else Res.bad) = _
                  rw [hm, if_pos rfl]
                rw [e]
                exact pe_rev g (G.isLoc pos) hm (ih a)
      | _ => cases hs
  | Dict ks vs pos =>
    match ks, vs with
    | [], [] =>
      have e : stepE G call S c (.Dict [] [] pos) = fun s h => newDc (G.isDtp pos) h := by
        funext s h
        cases h <;> rfl
      rw [e]
      exact pe_dict g (G.isDtp pos) pos
    | _ :: _, _ => exact no_e fun s h => rfl
    | [], _ :: _ => exact no_e fun s h => rfl
  | ListComp elt gs scope pos =>
    match gs with
    | [⟨tg, it, ifs, 0⟩] => exact pe_comp g so.e so.t
    | [] => exact no_e fun s h => rfl
    | [⟨tg, it, ifs, Int.ofNat (_ + 1)⟩] => exact no_e fun s h => rfl
    | [⟨tg, it, ifs, Int.negSucc _⟩] => exact no_e fun s h => rfl
    | ⟨tg, it, ifs, a⟩ :: _ :: _ => 
      match a with
      | 0 => exact no_e fun s h => rfl
      | Int.ofNat (_ + 1) => exact no_e fun s h => rfl
      | Int.negSucc _ => exact no_e fun s h => rfl
  | Call f es kws pos =>
    cases kws with
    | cons kw kr =>
      cases kr with
      | cons _ _ => cases f <;> exact no_e fun s h => rfl
      | nil =>
        cases f with
        | Name x p => exact pe_srev g ih x es kw p pos
        | _ => exact no_e fun s h => rfl
    | nil =>
      cases f with
      | Name x p => exact callE_ok ar g ih x es p pos
      | Attribute o m ap =>
        cases h : (isCall0 o || (ap.endLine != pos.line) || decide (es.length ≥ 29) || es.any isStar) with
        | true => exact no_e fun s h' => by show (if (isCall0 o || (ap.endLine != pos.line) || decide (es.length ≥ 29) || es.any isStar) = true then Res.bad else _) = _; rw [if_pos h]
        | false =>
          have h' : ¬ (isCall0 o || (ap.endLine != pos.line) || decide (es.length ≥ 29) || es.any isStar) = true := by rw [h]; simp
          rw [Bool.or_eq_false_iff, Bool.or_eq_false_iff, Bool.or_eq_false_iff] at h
          obtain ⟨⟨⟨h1, h2⟩, h3⟩, h4⟩ := h
          cases hm : mthOf m with
          | none =>
            cases hd : dmOf m with
            | none => exact no_e fun s h0 => by show (if (isCall0 o || (ap.endLine != pos.line) || decide (es.length ≥ 29) || es.any isStar) = true then Res.bad else _) = _; rw [if_neg h', hm, hd]
            | some q =>
              cases es with
              | nil => exact no_e fun s h0 => by show (if (isCall0 o || (ap.endLine != pos.line) || decide (([] : List Expr).length ≥ 29) || ([] : List Expr).any isStar) = true then Res.bad else _) = _; rw [if_neg h', hm, hd]; rfl
              | cons e0 es =>
                have e : stepE G call S c (.Call (.Attribute o m ap) (e0 :: es) [] pos) = fun s h => (S.e c o s h).bind fun x h1 => if (dcAt x h1).isSome then (argsE (S.e c) (e0 :: es) s h1).bind fun ys h2 => dmD q x ys h2 else .bad := by
                  funext s h0
                  show (if (isCall0 o || (ap.endLine != pos.line) || decide ((e0 :: es).length ≥ 29) || (e0 :: es).any isStar) = true then Res.bad else _) = _
                  rw [if_neg h', hm, hd]
                  rfl
                rw [e]
                exact pe_dm g ih h1 (by simpa using h2) (by simpa using h3) h4 hd (ih o)
          | some q =>
            have e : stepE G call S c (.Call (.Attribute o m ap) es [] pos) = fun s h => (S.e c o s h).bind fun x h1 => if (x.own h1).isSome then (argsE (S.e c) es s h1).bind fun ys h2 => mthD q x ys h2 else .bad := by
              funext s h0
              show (if (isCall0 o || (ap.endLine != pos.line) || decide (es.length ≥ 29) || es.any isStar) = true then Res.bad else _) = _
              rw [if_neg h', hm]
            rw [e]
            exact pe_mth g ih h1 (by simpa using h2) (by simpa using h3) h4 hm (ih o)
      | _ => exact no_e fun s h => rfl
  | _ => exact no_e fun s h => rfl
theorem stepT_ok (so : SmOk τ G call k S) (g : Gd τ G call X c k W) (e : Expr) : PT X e (tT τ X.K X.mg W (stepT G S c e)) := by
  have ih := so.e X c W g
  have iht := so.t X c W g
  have pl : ∀ e, (∀ s h, stepT G S c e s h = (S.e c e s h).bind truthR) → (∀ whole, isTrue e X.env whole = (do let v ← whole; standAt e.pos; holding [v] (truthy v))) → PT X e (tT τ X.K X.mg W (stepT G S c e)) := fun e h1 h2 => by
    have e1 : stepT G S c e = fun s h => (S.e c e s h).bind truthR := by funext s h; exact h1 s h
    rw [e1]
    exact pt_ofVal g (ih e) h2
  cases e with
  | UnaryOp op a pos =>
    cases op with
    | Not => exact pt_notD g (iht a)
    | _ => exact pl _ (fun s h => rfl) fun _ => rfl
  | BoolOp op es pos => exact pt_bool g iht es
  | IfExp t a b pos => exact .no fun σ H Q => tR_bad fun s h => rfl
  | Compare a ops es pos =>
    cases h : (ops.isEmpty || es.any isSet || ops.length != es.length) with
    | true => exact .no fun σ H Q => tR_bad fun s h' => by show (if (ops.isEmpty || es.any isSet || ops.length != es.length) = true then Res.bad else _) = _; rw [if_pos h]
    | false =>
      rw [Bool.or_eq_false_iff, Bool.or_eq_false_iff] at h
      have h' : ¬ (ops.isEmpty || es.any isSet || ops.length != es.length) = true := by rw [h.1.1, h.1.2, h.2]; simp
      have e : stepT G S c (.Compare a ops es pos) = fun s h => (S.e c a s h).bind fun x h1 => (chainE (S.e c) x ops es s h1).bind fun z h => match z with | .bl b => .ok b h | _ => .bad := by
        funext s h0
        show (if (ops.isEmpty || es.any isSet || ops.length != es.length) = true then Res.bad else _) = _
        rw [if_neg h'] <;> rfl
      rw [e]
      exact pt_compare g ih h.1.1 h.1.2 (by simpa using h.2)
  | _ => exact pl _ (fun s h => rfl) fun _ => rfl
theorem no_s {st : Stmt} {f : Sl → Hs → Out} (h : ∀ s h, f s h = .bad) : PS X st (tS τ X.K X.mg W f) := .no fun D σ H => tS_bad h
theorem stepS_ok (so : SmOk τ G call k S) (g : Gd τ G call X c k W) (st : Stmt) : PS X st (tS τ X.K X.mg W (stepS G call S c st)) := by
  have ih := so.e X c W g
  have iht := so.t X c W g
  have ihb := so.b X c W g
  cases st with
  | Pass pos => exact ps_pass.imp fun D σ H ⟨α, F, h, s, a, p⟩ => p.next a
  | Break pos => exact ps_break.imp fun D σ H ⟨α, F, h, s, a, p⟩ => p α F H σ Ext.refl a
  | Continue pos => exact ps_continue.imp fun D σ H ⟨α, F, h, s, a, p⟩ => p α F H σ Ext.refl a
  | Return v pos =>
    cases v with
    | none => exact ps_retN.imp fun D σ H ⟨α, F, h, s, a, p⟩ => p α F H .non Ext.refl a.1 .non
    | some e => exact ps_return g (ih e)
  | Expr e pos =>
    by_cases hd : ∃ x j p, e = .Constant (.str x) j p
    · obtain ⟨x, j, p, rfl⟩ := hd
      exact ps_doc.imp fun D σ H ⟨α, F, h, s, a, p⟩ => p.next a
    · have e1 : stepS G call S c (.Expr e pos) = fun s h => if isComp e then .bad else (S.e c e s h).out s fun _ h1 => .next s h1 := by
        funext s h
        cases e with
        | Constant v j p => cases v <;> first | rfl | exact absurd ⟨_, _, _, rfl⟩ hd
        | _ => rfl
      rw [e1]
      cases hc : isComp e with
      | true => exact no_s fun s h => by simp [hc]
      | false =>
        have := ps_drop (pos := pos) g hc (ih e)
        simpa [hc] using this
  | Assign ts v pos =>
    match ts with
    | [] => exact no_s fun s h => rfl
    | [tg] => exact ps_pre g so.e so.t (G.fzsAt pos) (ps_asgD g so.e so.t tg v pos)
    | _ :: _ :: _ => exact no_s fun s h => rfl
  | AugAssign tg op e pos =>
    cases tg with
    | Name x px =>
      cases h1 : stoN c x with
      | false => exact no_s fun s h => by show (if stoN c x = true then _ else Out.bad) = _; rw [h1]; rfl
      | true =>
        cases h2 : nameAt c.nm x with
        | none => exact no_s fun s h => by show (if stoN c x = true then _ else Out.bad) = _; rw [if_pos h1, h2]
        | some i =>
          have e1 : stepS G call S c (.AugAssign (.Name x px) op e pos) = fun s h => (lk s i h).out s fun a h1 => (S.e c e s h1).out s fun b h2 => match augD op a b with
              | some d => .next (s.set i (some d)) h2
              | none => (extR op a b h2).out s fun d h3 => .next (s.set i (some d)) h3 := by
            funext s h
            show (if stoN c x = true then _ else Out.bad) = _
            rw [if_pos h1, h2] <;> rfl
          rw [e1]
          exact ps_augD g h1 h2 (ih e)
    | Subscript o i tp =>
      cases hs : isSlice i with
      | true => exact no_s fun s h => by show (if isSlice i = true then Out.bad else _) = _; rw [if_pos hs]
      | false =>
        have e1 : stepS G call S c (.AugAssign (.Subscript o i tp) op e pos) = fun s h => (S.e c o s h).out s fun x h1 => (S.e c i s h1).out s fun y h2 => (ixL x y h2).out s fun a h3 => (S.e c e s h3).out s fun b h4 => match augD op a b with
            | some d => (setD x y d h4).out s fun _ h5 => .next s h5
            | none => .bad := by
          funext s h
          show (if isSlice i = true then Out.bad else _) = _
          rw [hs] <;> rfl
        rw [e1]
        exact ps_augIx g hs (ih o) (ih i) (ih e)
    | _ => exact no_s fun s h => rfl
  | If t a b pos => exact ps_ifD g (iht t) (ihb a) (ihb b)
  | While t b o pos =>
    cases o with
    | nil => exact ps_whileD g (G.clrAt pos) wmost (iht t) (ihb b)
    | cons _ _ => exact no_s fun s h => rfl
  | For tg it b o pos =>
    cases o with
    | nil =>
      cases hs : isSet it with
      | true => exact no_s fun s h => by show (if isSet it = true then Out.bad else _) = _; rw [if_pos hs]
      | false =>
        have e1 : stepS G call S c (.For tg it b [] pos) = fun s h => (walkE G S c tg it s h).out s fun w h1 => forL w (fun d s h => (gE S c tg d s h).out s fun s2 h2 => S.b c b s2 h2) (G.clrAt pos) w.most 0 s h1 := by
          funext s h
          show (if isSet it = true then Out.bad else _) = _
          rw [hs]; rfl
        rw [e1]
        exact ps_forD g (G.clrAt pos) hs ih (ihb b)
    | cons _ _ => exact no_s fun s h => rfl
  | Raise e cz pos =>
    cases cz with
    | some _ =>
      cases e with
      | none => exact no_s fun s h => rfl
      | some e => cases e <;> exact no_s fun s h => by first | rfl | (unfold stepS; split <;> first | rfl | (rename_i hq; cases hq))
    | none =>
      cases e with
      | none => exact no_s fun s h => rfl
      | some e =>
        cases e with
        | Call f es kw p2 =>
          cases f with
          | Name x p =>
            cases kw with
            | nil => exact ps_raiseD g ih
            | cons _ _ => exact no_s fun s h => rfl
          | _ => exact no_s fun s h => rfl
        | _ => exact no_s fun s h => rfl
  | Try body hs o f pos =>
    by_cases hq : ∃ x np n su p2, hs = [.ExceptHandler (some (.Name x np)) (some n) su p2] ∧ o = [] ∧ f = []
    · obtain ⟨x, np, n, su, p2, rfl, rfl, rfl⟩ := hq
      exact ps_tryD so.b g
    · exact no_s fun s h => by
        unfold stepS
        split <;> first | rfl | (rename_i heq; cases heq; done) | (rename_i heq; cases heq; exact absurd ⟨_, _, _, _, _, rfl, rfl, rfl⟩ hq)
  | _ => exact no_s fun s h => rfl
theorem sem_ok (ar : Ar G call) : ∀ n, SmOk τ G call k (sem G call n)
  | 0 => ⟨fun X c W g e => no_e fun s h => rfl, fun X c W g e => .no fun σ H Q => tR_bad fun s h => rfl, fun X c W g b => ⟨fun pins s σ H D I q => absurd q (tS_bad fun s h => rfl)⟩⟩
  | n + 1 => ⟨fun X c W g e => stepE_ok ar (sem_ok ar n) g e, fun X c W g e => stepT_ok (sem_ok ar n) g e, fun X c W g b => pss_block g (fun st => stepS_ok (sem_ok ar n) g st) b⟩
end
theorem callN_ar (G : Cfg) : ∀ n, Ar G (callN G n)
  | 0 => fun x r h ds hp hl => rfl
  | n + 1 => fun x r h ds hp hl => by
    unfold callN
    rw [h]
    simp only
    rw [if_neg hl]
/-! ### defs -/
theorem SR.start {K : PySem.W.Frag} {α : Al} {F : Hp} {N : List Str} : ∀ {ds : List D} {vs : List V}, RDs K α F ds vs → SR K α F (ds.map some ++ List.replicate (N.length - ds.length) none) (L2.start N vs) := by
  intro ds vs r
  have hl := r.length
  refine ⟨by simp [L2.start, hl], fun i d e => ?_⟩
  by_cases hi : i < ds.length
  · rw [List.getElem?_append_left (by simpa using hi), List.getElem?_map] at e
    obtain ⟨d', e1, e2⟩ := Option.map_eq_some_iff.mp e
    cases e2
    obtain ⟨v, e3, q⟩ := r.get e1
    refine ⟨v, ?_, q⟩
    unfold L2.start
    rw [List.getElem?_append_left (by simpa [← hl] using hi), List.getElem?_map, e3]
    rfl
  · rw [List.getElem?_append_right (by simp; omega)] at e
    have := (List.mem_of_getElem? e)
    have := List.eq_of_mem_replicate this
    cases this
/-- what the text's top leaves of the program -/
structure Tx (G : Cfg) (K : PySem.W.Frag) (mg : Str → Option Value) : Prop where
  defs : ∀ x r, G.defs.lookup x = some r → ∃ f fd, mg x = some (.ref f) ∧ Fun K x x r.st f fd ∧ Binds K fd r.ps []
  globs : ∀ x d, G.globs.lookup x = some d → ∃ u v, mg x = some u ∧ RelV v u ∧ RD K [] (fun _ => none) d v
  blts : ∀ x, x ∈ G.blts → mg x = none
/-- the defs that make generators: their code objects and tables -/
def GenTx (τ : List Addr) (G : Cfg) (K : PySem.W.Frag) (mg : Str → Option Value) (base : Heap) : Prop := ∀ x r f, G.defs.lookup x = some r → r.gen = true → mg x = some (.ref f) →
  ∃ (cc P : Addr) (oc : Value) (od : Option Addr) (fd : FuncData) (sl : Array (Option Value)), K.lookup f = some ⟨oc, od, .func fd, sl⟩ ∧ fd.code = .ref cc ∧ GxR.TabB base mg cc P ∧ P ∈ τ
theorem genTx_nil {G : Cfg} {K : PySem.W.Frag} {mg : Str → Option Value} {base : Heap} (h : (G.defs.any fun p => p.2.gen) = false) : GenTx [] G K mg base := fun x r f e hr _ => by
  have : ∀ {l : List (Str × DefR)}, l.lookup x = some r → (l.any fun p => p.2.gen) = true := by
    intro l
    induction l with
    | nil => intro z; cases z
    | cons p t ih =>
      intro z
      unfold List.lookup at z
      rw [List.any_cons]
      split at z
      · have z : p.2 = r := Option.some.inj z
        rw [z, hr]; rfl
      · rw [ih z, Bool.or_true]
  rw [this e] at h
  cases h
/-- what is seen in the texts of the defs alone -/
structure Ok (G : Cfg) : Prop where
  scs : ∀ x r, G.defs.lookup x = some r → FnScope r.nm r.ps (defScope r.st)
  dbg : ∀ x r, G.defs.lookup x = some r → ("__debug__" : Str) ∉ r.nm ∧ ("__classdict__" : Str) ∉ r.nm
  nodbg : ∀ x, (G.defs.lookup x).isSome = true ∨ (G.globs.lookup x).isSome = true ∨ x ∈ G.blts → (x == ("__debug__" : Str)) = false ∧ x ≠ "__name__"
/-- the own exception classes, as the text's top leaves them -/
def ExcTx (P : Program) (G : Cfg) (K : PySem.W.Frag) (mg : Str → Option Value) : Prop := ∀ x r, G.excs.lookup x = some r → ∀ w base, ExcAt P w K mg base x r
theorem excTx_nil {P : Program} {G : Cfg} {K : PySem.W.Frag} {mg : Str → Option Value} (h : G.excs = []) : ExcTx P G K mg := fun x r e => by
  rw [h] at e
  cases e
theorem callN_deep {G : Cfg} : ∀ (n : Nat) (h : Hs), callN G n "" [] h ≠ .bad → 1 ≤ n
  | 0, h, e => absurd rfl e
  | n + 1, _, _ => by omega
section
variable {G : Cfg} {P : Program} {w : World} {K : PySem.W.Frag} {mg : Str → Option Value} {base : Heap}
theorem fn_ok (ok : Ok G) (T : Tx G K mg) (EX : ExcTx P G K mg) (GB : GenTx τ G K mg base) : ∀ (n : Nat) (x : Str) (r : DefR) (f : Addr) (fd : FuncData), G.defs.lookup x = some r → mg x = some (.ref f) → Fun K x x r.st f fd → FnOk P w K mg base (L2.CX P w) n f fd r.ps (spF τ K mg r.ps.length (callN G n x))
  | 0, x, r, f, fd, h, hm, F => by
    refine ⟨fun vs H Q E h => h.1, fun A outer s H args us vs Q E _ _ _ _ h => ?_⟩
    obtain ⟨_, α, F, hp, ds, _, _, p⟩ := h
    exact p.elim
  | n + 1, x, r, f, fd, h, hm, F => by
    have S := ok.scs x r h
    obtain ⟨oc, od, kV, doc, pm, an, cdv, ct, osl, rfl, lk, hcd⟩ := F.ex
    have hgen : r.gen = true → ∃ cc P, cdv = .ref cc ∧ GxR.TabB base mg cc P ∧ P ∈ τ := fun hg => by
      obtain ⟨cc, P, oc', od', fd', sl', e1, e2, e3, e4⟩ := GB x r f h hg hm
      rw [lk] at e1
      cases e1
      exact ⟨cc, P, e2, e3, e4⟩
    refine fn_of lk hcd S (fun vs H Q E h => h.1) fun A outer s H vs Q E hr hsp => ?_
    have top : Tp τ G (callN G n) P w K mg base n := ⟨fun y r' h' => by
      obtain ⟨f', fd', h1, h2, h3⟩ := T.defs y r' h'
      exact ⟨f', fd', h1, h2.kp, fn_ok ok T EX GB n y r' f' fd' h' h1 h2, h3⟩, T.globs, T.blts, ok.nodbg, fun x r e => EX x r e w base, callN_deep n⟩
    have g : Gd τ G (callN G n) (cxOf (L2.CX P w) P w K mg base r.nm x (defScope r.st) f cdv A outer s H E) ⟨r.nm, defScope r.st, none, r.gen⟩ n (fun cls d _ H => E cls d H) :=
      ⟨rfl, rfl, S.nd, ok.dbg x r h, rfl, S.kind, hr, fun _ _ => .inl rfl, takes_of rfl rfl rfl rfl, passes_of rfl, fun _ => ⟨rfl, rfl⟩, top, hgen⟩
    refine ⟨_, (sem_ok (callN_ar G n) fuel).b _ _ _ g (defBody r.st), ?_⟩
    obtain ⟨hl, α, F0, hp, ds, wd, rs, p⟩ := hsp
    have hds : ds.length = r.ps.length := by rw [rs.length]; exact hl
    unfold callN at p
    rw [h] at p
    simp only [hds, if_true] at p
    cases hsh : r.share with
    | true =>
      refine ⟨α, F0, hp, ds.map some ++ List.replicate (r.nm.length - ds.length) none, ⟨wd, SR.start rs⟩, ?_⟩
      simp only [hsh, if_true] at p
      rw [← hds] at p
      revert p
      generalize (sem G (callN G n) fuel).b ⟨r.nm, defScope r.st, none, r.gen⟩ (defBody r.st) (ds.map some ++ List.replicate (r.nm.length - ds.length) none) hp = o
      intro p
      cases o with
      | next s' h' => exact fun α' F' H' σ' x a => p α' F' H' .non x a.1 .non
      | ret d h' => exact fun α' F' H' v x w r => p α' F' H' v x w r
      | exc e s' h' => exact fun α' F' H' σ' cls dd x a r => p α' F' H' cls dd x a.1 r
      | brk s' h' => exact p.elim
      | cont s' h' => exact p.elim
      | bad => exact p.elim
    | false =>
      refine ⟨[] :: α, F0, [] :: hp, ds.map some ++ List.replicate (r.nm.length - ds.length) none, ⟨wd.push, SR.start (rs.mono (fun l k a e => gt_old e) (Same.refl _))⟩, ?_⟩
      simp only [hsh] at p
      rw [← hds] at p
      have p : RP τ K mg E (RD K) α F0 H (match (sem G (callN G n) fuel).b ⟨r.nm, defScope r.st, none, r.gen⟩ (defBody r.st) (ds.map some ++ List.replicate (r.nm.length - ds.length) none) ([] :: hp) with
          | .next _ (_ :: h') => .ok .non h'
          | .ret d (_ :: h') => if d.ok hp.length then .ok d h' else .bad
          | .exc e _ (_ :: h') => if e.fs.all (fun p => p.2.ok hp.length) then .exc e h' else .bad
          | _ => .bad) Q := p
      revert p
      generalize (sem G (callN G n) fuel).b ⟨r.nm, defScope r.st, none, r.gen⟩ (defBody r.st) (ds.map some ++ List.replicate (r.nm.length - ds.length) none) ([] :: hp) = o
      intro p
      have cons : ∀ {α' : Al} {F' H' : Hp}, Ext ([] :: α) F0 H α' F' H' → ∃ a0 ar, α' = a0 :: ar ∧ ar.length = α.length := by
        intro α' F' H' x
        cases α' with
        | nil => have := x.len; simp at this
        | cons a0 ar => exact ⟨a0, ar, rfl, by simpa using x.len⟩
      cases o with
      | next s' h' =>
        cases h' with
        | nil => exact p.elim
        | cons t h' =>
          intro α' F' H' σ' x a
          obtain ⟨a0, ar, rfl, _⟩ := cons x
          obtain ⟨w2, x2⟩ := a.1.pop x
          exact p ar F' H' .non x2 w2 .non
      | ret d h' =>
        cases h' with
        | nil => exact p.elim
        | cons t h' =>
          simp only at p
          split at p
          · rename_i hd
            intro α' F' H' v x w r
            obtain ⟨a0, ar, rfl, hla⟩ := cons x
            obtain ⟨w2, x2⟩ := w.pop x
            exact p ar F' H' v x2 w2 (r.pop (by rw [hla, wd.len]; exact hd))
          · exact p.elim
      | exc e s' h' =>
        cases h' with
        | nil => exact p.elim
        | cons t h' =>
          simp only at p
          split at p
          · intro α' F' H' σ' cls dd x a r
            obtain ⟨a0, ar, rfl, hla⟩ := cons x
            obtain ⟨w2, x2⟩ := a.1.pop x
            exact p ar F' H' cls dd x2 w2 r
          · exact p.elim
      | brk s' h' => cases h' <;> exact p.elim
      | cont s' h' => cases h' <;> exact p.elim
      | bad => exact p.elim
end
/-- a law whose call by the evaluator gives True at every script -/
theorem law_spT {G : Cfg} {K : PySem.W.Frag} {mg : Str → Option Value} {n m : Nat} (law : ∀ ns : List Int, ns.length ≤ m → ∃ h, callN G n "law" [.scr ns] [] = .ok (.bl true) h)
    (H : Hp) (a : Addr) (ns : List Int) (hl : ns.length ≤ m) (hs : SqL K H a (ns.map V.int)) (ht : ∀ p ∈ τ, GxR.TabG H p) : spF τ K mg 1 (callN G n "law") [.ref a] H (fun v _ => v = .bl true) fun _ _ _ => False := by
  have hs' : SqL K (fun p => if p ∈ τ then none else H p) a (ns.map V.int) := by
    rcases hs with h | h
    · refine .inl ?_
      have na : a ∉ τ := fun z => by
        obtain ⟨ps, e, _⟩ := ht a z
        rcases h with h | ⟨o, h⟩
        · rw [h] at e; cases e
        · rw [h] at e; cases e
      rcases h with h | ⟨o, h⟩
      · exact .inl (by simp only [na, if_false]; exact h)
      · exact .inr ⟨o, by simp only [na, if_false]; exact h⟩
    · exact .inr h
  refine ⟨rfl, [], fun p => if p ∈ τ then none else H p, [], [.scr ns], ⟨rfl, fun b o e => by
    by_cases hb : b ∈ τ
    · simp [hb] at e
    · simpa [hb] using e, fun l k o e => by simp [gt] at e, fun l k l' k' a e => by simp [gt] at e, fun l k a e => by simp [gt] at e, fun l k o e => by simp [gt] at e, fun p hp => ⟨ht p hp, by simp [hp], fun l k => by simp [gt]⟩⟩, .cons (.scr hs') .nil, ?_⟩
  obtain ⟨h, e⟩ := law ns hl
  rw [e]
  intro α' F' H' v _ _ r
  cases r
  rfl
theorem law_sp {G : Cfg} {K : PySem.W.Frag} {mg : Str → Option Value} {n m : Nat} (law : ∀ ns : List Int, ns.length ≤ m → ∃ h, callN G n "law" [.scr ns] [] = .ok (.bl true) h)
    (H : Hp) (a : Addr) (ns : List Int) (hl : ns.length ≤ m) (hs : SqL K H a (ns.map V.int)) : spF [] K mg 1 (callN G n "law") [.ref a] H (fun v _ => v = .bl true) fun _ _ _ => False :=
  law_spT (τ := []) law H a ns hl hs (fun p hp => by cases hp)
end Bk

/-! BkTop: what a law's text gives once: its defs, its constants, its free names. -/
namespace Bk
open PySem PySem.Spec PyProof.Rows L2
def DefAt (K : PySem.W.Frag) (mg : Str → Option Value) (x : Str) (st : Stmt) (ps : List Str) : Prop := ∃ f fd, mg x = some (.ref f) ∧ Fun K x x st f fd ∧ ∀ us : List Value, us.length = ps.length → bindArgs fd ⟨us, []⟩ = pure (ps.zip us)
abbrev DefAtX {K : PySem.W.Frag} {h : Heap} (_ : K.In h) (mg : Str → Option Value) (x : Str) (st : Stmt) (ps : List Str) : Prop := DefAt K mg x st ps
abbrev TxX {K : PySem.W.Frag} {h : Heap} (_ : K.In h) (G : Cfg) (mg : Str → Option Value) : Prop := Tx G K mg
theorem defAt_mk {x : Str} {st : Stmt} {ps : List Str} {K : PySem.W.Frag} {h : Heap} {mg : Str → Option Value} {f : Addr} {oc : Value} {od an : Option Addr} {sl : Array (Option Value)} {kV dc pm cd ct : Value} (X : K.In h) (Gm : h.Ns mainGlobals mg)
    (b : ∀ (kV dc pm : Value) (an : Option Addr) (cd ct : Value) (us : List Value), us.length = ps.length → bindArgs (PySem.W.fnOf x x (defArgs st) (defBody st) (defScope st) .none kV dc pm an cd ct) ⟨us, []⟩ = pure (ps.zip us))
    (a : PySem.W.nsIn K mainGlobals x = some (some (.ref f))) (l : K.lookup f = some ⟨oc, od, .func (PySem.W.fnOf x x (defArgs st) (defBody st) (defScope st) .none kV dc pm an cd ct), sl⟩) (c : PySem.W.codeIn K cd x = true) (k : PySem.W.keepIn K (.ref f) = true) : DefAtX X mg x st ps :=
  ⟨f, _, PySem.W.mg_of X Gm a, fun_mk l c k, b _ _ _ _ _ _⟩
def AllD (P : Str → DefR → Prop) : List (Str × DefR) → Prop
  | [] => True
  | p :: t => P p.1 p.2 ∧ AllD P t
theorem AllD.get {P : Str → DefR → Prop} {x : Str} {r : DefR} : ∀ {l : List (Str × DefR)}, AllD P l → l.lookup x = some r → P x r
  | [], _, h => by cases h
  | (y, q) :: t, a, h => by
    unfold List.lookup at h
    split at h
    · rename_i e
      cases h
      have : x = y := by simpa using e
      subst this
      exact a.1
    · exact AllD.get a.2 h
def AllG (P : Str → D → Prop) : List (Str × D) → Prop
  | [] => True
  | p :: t => P p.1 p.2 ∧ AllG P t
theorem AllG.get {P : Str → D → Prop} {x : Str} {r : D} : ∀ {l : List (Str × D)}, AllG P l → l.lookup x = some r → P x r
  | [], _, h => by cases h
  | (y, q) :: t, a, h => by
    unfold List.lookup at h
    split at h
    · rename_i e
      cases h
      have : x = y := by simpa using e
      subst this
      exact a.1
    · exact AllG.get a.2 h
def AllB (P : Str → Prop) : List Str → Prop
  | [] => True
  | p :: t => P p ∧ AllB P t
theorem AllB.get {P : Str → Prop} {x : Str} : ∀ {l : List Str}, AllB P l → x ∈ l → P x
  | [], _, h => by cases h
  | y :: t, a, h => by
    cases h with
    | head => exact a.1
    | tail _ h => exact AllB.get a.2 h
def GlobAt (K : PySem.W.Frag) (mg : Str → Option Value) (x : Str) (d : D) : Prop := ∃ u v, mg x = some u ∧ RelV v u ∧ RD K [] (fun _ => none) d v
abbrev GlobAtX {K : PySem.W.Frag} {h : Heap} (_ : K.In h) (mg : Str → Option Value) (x : Str) (d : D) : Prop := GlobAt K mg x d
theorem globInt {x : Str} {i : Int} {t : Tok} {K : PySem.W.Frag} {h : Heap} {mg : Str → Option Value} (X : K.In h) (Gm : h.Ns mainGlobals mg) (a : PySem.W.nsIn K mainGlobals x = some (some (.int i t))) : GlobAtX X mg x (.int i) := ⟨_, .int i, PySem.W.mg_of X Gm a, ⟨_, rfl⟩, .int i⟩
theorem globStr {x : Str} {i : Str} {t : Tok} {K : PySem.W.Frag} {h : Heap} {mg : Str → Option Value} (X : K.In h) (Gm : h.Ns mainGlobals mg) (a : PySem.W.nsIn K mainGlobals x = some (some (.str i t))) : GlobAtX X mg x (.str i) := ⟨_, .str i, PySem.W.mg_of X Gm a, ⟨_, rfl⟩, .str i⟩
theorem tx_mk {G : Cfg} {K : PySem.W.Frag} {mg : Str → Option Value} (hd : AllD (fun x r => DefAt K mg x r.st r.ps) G.defs) (hg : AllG (GlobAt K mg) G.globs) (hb : AllB (fun x => mg x = none) G.blts) : Tx G K mg :=
  ⟨fun x r h => by
    obtain ⟨f, fd, h1, h2, h3⟩ := AllD.get hd h
    exact ⟨f, fd, h1, h2, .all h3⟩, fun x d h => AllG.get hg h, fun x h => AllB.get hb h⟩
def noNm (x : Str) : Bool := !(x == ("__debug__" : Str)) && !(x == ("__name__" : Str))
theorem noNm_ok {x : Str} (h : noNm x = true) : (x == ("__debug__" : Str)) = false ∧ x ≠ "__name__" := by
  unfold noNm at h
  rw [Bool.and_eq_true, Bool.not_eq_true', Bool.not_eq_true'] at h
  exact ⟨h.1, fun e => by rw [e] at h; simp at h⟩
theorem ok_mk {G : Cfg} (h : AllD (fun x r => FnScope r.nm r.ps (defScope r.st) ∧ ("__debug__" : Str) ∉ r.nm ∧ ("__classdict__" : Str) ∉ r.nm ∧ noNm x = true) G.defs) (h3 : AllG (fun x _ => noNm x = true) G.globs) (h4 : AllB (fun x => noNm x = true) G.blts) : Ok G :=
  ⟨fun x r e => (AllD.get h e).1, fun x r e => ⟨(AllD.get h e).2.1, (AllD.get h e).2.2.1⟩, fun x e => by
    rcases e with e | e | e
    · obtain ⟨r, e⟩ := Option.isSome_iff_exists.mp e
      exact noNm_ok (AllD.get h e).2.2.2
    · obtain ⟨r, e⟩ := Option.isSome_iff_exists.mp e
      exact noNm_ok (AllG.get h3 e)
    · exact noNm_ok (AllB.get h4 e)⟩
def lawSp (G : Cfg) (n : Nat) (K : PySem.W.Frag) : Sp := fun vs H Q E => ∀ mg : Str → Option Value, spF [] K mg 1 (callN G n "law") vs H Q E
theorem noCX {P : Program} {w : World} {H : Hp} {s : Shared} {e : Value} {s' : Shared} (x : L2.CX P w [] H s (fun _ _ _ => False) e s') : False := by
  obtain ⟨_, _, _, _, _, _, _, _, _, _, _, _, z⟩ := x
  exact z
/-! ### own exception classes -/
open NdefX in
abbrev initF (ini : Stmt) (qn : Str) (cc cda : Addr) : NF := ⟨"__init__", qn, defArgs ini, defBody ini, defScope ini, [(("__class__" : Str), cc)], cda⟩
def okNames (sc : Scope) : Bool := sc.names.all fun p => !(p.1 == ("__debug__" : Str)) && !(p.1 == ("__classdict__" : Str))
theorem okNames_vis {sc : Scope} (h : okNames sc = true) (y : Str) (v : Vis sc y) : (y == ("__debug__" : Str)) = false ∧ (y == ("__classdict__" : Str)) = false := by
  unfold okNames at h
  rw [List.all_eq_true] at h
  have key : ∀ k, sc.names.lookup y = some k → (y == ("__debug__" : Str)) = false ∧ (y == ("__classdict__" : Str)) = false := fun k e => by
    have := h _ (PySem.mem_of_lookup e)
    simpa using this
  rcases v with v | v | v
  · exact key _ v
  · exact key _ v
  · exact key _ v
def classAt (st : Stmt) : List Stmt := match st with
  | .ClassDef _ _ _ body _ _ _ _ _ _ _ => body
  | _ => []
abbrev ExcAtX {K : PySem.W.Frag} {h : Heap} (_ : K.In h) (P : Program) (mg : Str → Option Value) (x : Str) (r : ExcR) : Prop := ∀ w base, ExcAt P w K mg base x r
/-- what is seen of __init__ in its text alone -/
structure InitTx (ini : Stmt) (r : ExcR) (N ps : List Str) : Prop where
  sc : NdefX.NScope N ps ["__class__"] (defScope ini)
  body : ∃ (p0 p1 p2 px pos pos' : Pos) (x : Str) (i : Nat) (rest : List Stmt) (fx : List (Str × Str)), defBody ini = .Expr (.Call (.Attribute (.Call (.Name "super" p0) [] [] p1) "__init__" p2) [.Name x px] [] pos) pos' :: rest ∧ (p2.endLine == pos.line) = true ∧
    ps[i]? = some x ∧ storesOf "self" rest = some fx ∧ r.fi.map (·.1) = fx.map (·.1) ∧ ((fx.zip r.fi).all fun z => decide (ps[z.2.2]? = some z.1.2)) = true
  sup : (defScope ini).names.lookup ("super" : Str) = some .globalImplicit
  par : ∃ ar, ((defArgs ini).posonlyargs ++ (defArgs ini).args).head? = some ar ∧ ar.arg = "self"
  self : ps[0]? = some ("self" : Str)
  nms : okNames (defScope ini) = true
  ix : ∀ p ∈ r.fi, 1 ≤ p.2 ∧ p.2 < ps.length
  ne : r.fi ≠ []
  few : r.fi.length ≤ 100
  n : ps.length = r.n
def AllF (K : PySem.W.Frag) (C : Addr) : List (Str × Nat) → Prop
  | [] => True
  | p :: t => PySem.W.findIn K (.ref C) p.1 = some none ∧ AllF K C t
theorem AllF.get {K : PySem.W.Frag} {C : Addr} : ∀ {l : List (Str × Nat)}, AllF K C l → ∀ p ∈ l, PySem.W.findIn K (.ref C) p.1 = some none
  | p :: t, h, q, hq => by
    rcases List.mem_cons.mp hq with rfl | hq
    · exact h.1
    · exact AllF.get h.2 q hq
/-- the own classes that isinstance asks for -/
def AllI (K : PySem.W.Frag) (C : Addr) : List (Str × Bool) → Prop
  | [] => True
  | p :: t => (∃ Cw, PySem.W.nsIn K mainGlobals p.1 = some (some (.ref Cw)) ∧ PySem.W.kitOne K (.ref C) (.ref Cw) = some p.2 ∧ (p.1 == ("__debug__" : Str)) = false) ∧ AllI K C t
theorem AllI.get {K : PySem.W.Frag} {C : Addr} : ∀ {l : List (Str × Bool)}, AllI K C l → ∀ y b, l.lookup y = some b → ∃ Cw, PySem.W.nsIn K mainGlobals y = some (some (.ref Cw)) ∧ PySem.W.kitOne K (.ref C) (.ref Cw) = some b ∧ (y == ("__debug__" : Str)) = false
  | [], _, y, b, e => by cases e
  | (z, q) :: t, h, y, b, e => by
    unfold List.lookup at e
    split at e
    · rename_i e2
      cases e
      have : y = z := by simpa using e2
      subst this
      exact h.1
    · exact AllI.get h.2 y b e
theorem alli_mk {K : PySem.W.Frag} {C Cw : Addr} {x : Str} {b : Bool} {t : List (Str × Bool)} (e1 : PySem.W.nsIn K mainGlobals x = some (some (.ref Cw))) (e2 : PySem.W.kitOne K (.ref C) (.ref Cw) = some b) (e3 : (x == ("__debug__" : Str)) = false) (r : AllI K C t) : AllI K C ((x, b) :: t) := ⟨⟨Cw, e1, e2, e3⟩, r⟩
/-- .. and the text's top -/
theorem excAt_mk {P : Program} {K : PySem.W.Frag} {h : Heap} {mg : Str → Option Value} {x nm q qn : Str} {r : ExcR} {ini : Stmt} {N ps : List Str} {C fI cc cda N' : Addr} {bs bm sub : List Value} {sn : List Str} {ab : Bool} {col : Option Bool} {dd : Option Addr} {k0 k1 k2 k3 k5 : Option Value}
    {oc doc pm ctv ccl y1 : Value} {od cdd y2 : Option Addr} {sl ccs y3 : Array (Option Value)} {vs : Array Value} {file : Str} {tf : Tok} (X : K.In h) (Gm : h.Ns mainGlobals mg) (I : InitTx ini r N ps) (hx : noNm x = true)
    (hb : ∀ us : List Value, us.length = ps.length → bindArgs ((initF ini qn cc cda).fd doc pm ctv) ⟨us, []⟩ = pure (ps.zip us))
    (a : PySem.W.nsIn K mainGlobals x = some (some (.ref C))) (cls : K.lookup C = some (excClassObj nm q C N' bs bm true sn sub ab col dd k0 k1 k2 k3 k5 "ValueError.__new__")) (hbm : PySem.HandSPX.refsVE bm = true)
    (sa : PySem.W.findIn K (.ref C) "__setattr__" = some (some (.builtin "object.__setattr__"))) (exC : PySem.W.subIn K (.ref C) (.type "BaseException") = some true) (tyC : PySem.W.typeIn K (.ref C) = some (.type "type")) (kC : PySem.W.keepIn K (.ref C) = true)
    (ga : PySem.W.findIn K (.ref C) "__getattribute__" = some (some (.builtin "BaseException.__getattribute__"))) (gg : PySem.W.findIn K (.ref C) "__getattr__" = some none) (hd : PySem.W.hasDictIn K C = true)
    (iC : PySem.W.findIn K (.ref C) "__init__" = some (some (.ref fI))) (tI : PySem.W.typeIn K (.ref fI) = some (.type "function")) (ho : K.lookup fI = some ⟨oc, od, .func ((initF ini qn cc cda).fd doc pm ctv), sl⟩) (hcd : PySem.W.codeIn K (.ref cda) qn = true)
    (hcode : K.lookup cda = some ⟨ccl, cdd, .fields vs, ccs⟩) (hvs : vs[2]? = some (.str file tf)) (hfile : ((P.main.file : Str) == file) = true) (cell : K.lookup cc = some ⟨y1, y2, .cell (some (.ref C)), y3⟩)
    (hsub : PySem.W.mroIn K C (.ref C) = some true) (up : PySem.W.ks_superIn K C C "__init__" = some (some (.builtin "ValueError.__init__"))) (ve : PySem.W.subIn K (.ref C) (.type "ValueError") = some true) (op : PySem.W.nsIn K PySem.cStatics "thirdparty.any" = some none)
    (hns : PySem.W.nsIn K mainGlobals "super" = some none) (htop : (P.main.scope.names.lookup ("super" : Str)).isSome = false) (hfs : AllF K C r.fi) (hss : PySem.W.subIn K (.ref C) (.ref C) = some true)
    (xa : PySem.W.findIn K (.ref C) "__class__" = some (some (.builtin "object.__class__"))) (xn : PySem.W.specialIn K (.builtin "object.__class__") "__get__" = some (some (.builtin "getset_descriptor.__get__"))) (xt : PySem.W.takesIn K (.builtin "object.__class__") = some true) (xm : PySem.W.mroIn K C (.type "object") = some true) (his : AllI K C r.isa) : ExcAtX X P mg x r := by
  intro w base
  have T : OexC K C := ⟨⟨nm, q, N', bs, bm, sn, sub, ab, col, dd, k0, k1, k2, k3, k5, cls, hbm⟩, sa, exC, tyC, kC⟩
  obtain ⟨p0, p1, p2, px, pos, pos', x', i, rest, fx, hbody, hline, hxi, hst, hfx, hchk⟩ := I.body
  have hps : ∀ (j : Nat) (p : Str × Str) (q : Str × Nat), fx[j]? = some p → r.fi[j]? = some q → ps[q.2]? = some p.2 := fun j p q h1 h2 => by
    have hm : (p, q) ∈ fx.zip r.fi := List.mem_of_getElem? (i := j) (by rw [List.getElem?_zip_eq_some]; exact ⟨h1, h2⟩)
    have := List.all_eq_true.mp hchk _ hm
    simpa using this
  have hfs := hfs.get
  have S : SupC P K mg (initF ini qn cc cda) C fI cc := ⟨T, ⟨oc, od, doc, pm, ctv, sl, ho⟩, ⟨ccl, cdd, vs, ccs, file, tf, hcode, hvs, hfile⟩, rfl, ⟨y1, y2, y3, cell⟩, hsub, up, ve, op, PySem.W.mg_none_of X Gm hns, htop⟩
  exact ⟨C, fI, _, ps, PySem.W.mg_of X Gm a, T, ⟨ga, gg, exC, hd, xa, xn, xt, xm⟩, iC, tI, fn_init S ho hcd I.sc hbody hline I.sup I.par I.self hxi (okNames_vis I.nms) hst hfx hps (fun p hp => ⟨(I.ix p hp).2, hfs p hp⟩) I.ne I.few, .all hb, I.n, fun p hp => ⟨(I.ix p hp).1, hfs p hp⟩, hss, fun y b e => let ⟨Cw, e1, e2, e3⟩ := his.get y b e; ⟨Cw, PySem.W.mg_of X Gm e1, e2, e3⟩, noNm_ok hx⟩
def AllE (P : Str → ExcR → Prop) : List (Str × ExcR) → Prop
  | [] => True
  | p :: t => P p.1 p.2 ∧ AllE P t
theorem AllE.get {P : Str → ExcR → Prop} {x : Str} {r : ExcR} : ∀ {l : List (Str × ExcR)}, AllE P l → l.lookup x = some r → P x r
  | [], _, h => by cases h
  | (y, q) :: t, a, h => by
    unfold List.lookup at h
    split at h
    · rename_i e
      cases h
      have : x = y := by simpa using e
      subst this
      exact a.1
    · exact AllE.get a.2 h
abbrev ExcTxX {K : PySem.W.Frag} {h : Heap} (_ : K.In h) (P : Program) (G : Cfg) (mg : Str → Option Value) : Prop := ExcTx P G K mg
theorem excTx_mk {P : Program} {G : Cfg} {K : PySem.W.Frag} {mg : Str → Option Value} (h : AllE (fun x r => ∀ w base, ExcAt P w K mg base x r) G.excs) : ExcTx P G K mg := fun x r e => AllE.get h e
end Bk

/-! BkHead: the head of a law whose defs make generators: their code objects' tables. -/
namespace Bk
open PySem PySem.Spec PyProof.Rows L2
/-- x's def, its code object at c, its table at P -/
def GenAt (K : PySem.W.Frag) (mg : Str → Option Value) (x : Str) (c P : Addr) : Prop :=
  PySem.W.codeHdIn K c P = true ∧ K.lookup P = none ∧ ∃ (f : Addr) (oc : Value) (od : Option Addr) (fd : FuncData) (sl : Array (Option Value)), mg x = some (.ref f) ∧ K.lookup f = some ⟨oc, od, .func fd, sl⟩ ∧ fd.code = .ref c
abbrev GenAtX {K : PySem.W.Frag} {h : Heap} (_ : K.In h) (mg : Str → Option Value) (x : Str) (c P : Addr) : Prop := GenAt K mg x c P
def codeIs (K : PySem.W.Frag) (f c : Addr) : Bool := match K.lookup f with
  | some ⟨_, _, .func fd, _⟩ => fd.code == .ref c
  | _ => false
theorem genAt_mk {K : PySem.W.Frag} {h : Heap} {mg : Str → Option Value} {x : Str} {f c P : Addr} (X : K.In h) (Gm : h.Ns mainGlobals mg) (b : codeIs K f c = true) (hc : PySem.W.codeHdIn K c P = true) (hn : (K.lookup P).isNone = true)
    (a : PySem.W.nsIn K mainGlobals x = some (some (.ref f))) : GenAtX X mg x c P := by
  refine ⟨hc, Option.isNone_iff_eq_none.mp hn, ?_⟩
  unfold codeIs at b
  split at b
  · rename_i oc od fd sl e
    exact ⟨f, _, _, fd, _, PySem.W.mg_of X Gm a, e, beq_iff_eq.mp b⟩
  · cases b
/-- all of them -/
def AllT (Q : Str → Addr → Addr → Prop) : List (Str × Addr × Addr) → Prop
  | [] => True
  | p :: t => Q p.1 p.2.1 p.2.2 ∧ AllT Q t
theorem AllT.get {Q : Str → Addr → Addr → Prop} : ∀ {l : List (Str × Addr × Addr)}, AllT Q l → ∀ p ∈ l, Q p.1 p.2.1 p.2.2
  | _ :: _, h, _, .head _ => h.1
  | _ :: _, h, _, .tail _ hp => h.2.get _ hp
/-- the defs that make generators are among those told -/
def gensIn (G : Cfg) (xs : List Str) : Bool := G.defs.all fun p => !p.2.gen || xs.contains p.1
theorem lookup_mem {α : Type} {x : Str} {r : α} : ∀ {l : List (Str × α)}, l.lookup x = some r → (x, r) ∈ l
  | [], h => by cases h
  | (y, q) :: t, h => by
    unfold List.lookup at h
    split at h
    · rename_i e
      cases h
      have : x = y := by simpa using e
      subst this
      exact List.mem_cons_self
    · exact List.mem_cons_of_mem _ (lookup_mem h)
theorem genTx_mk {G : Cfg} {K : PySem.W.Frag} {mg : Str → Option Value} {base : Heap} {ts : List (Str × Addr × Addr)} (T : AllT (GenAt K mg) ts) (hg : gensIn G (ts.map (·.1)) = true) (TB : ∀ p ∈ ts.map (·.2), GxR.TabB base mg p.1 p.2) : GenTx (ts.map (·.2.2)) G K mg base := by
  intro x r f hx hr hm
  have h1 := List.all_eq_true.mp hg _ (lookup_mem hx)
  simp only [hr, Bool.not_true, Bool.false_or] at h1
  obtain ⟨⟨y, c, P⟩, hp, e⟩ := List.mem_map.mp (List.contains_iff_mem.mp h1)
  simp only at e
  subst e
  obtain ⟨_, _, f', oc, od, fd, sl, e1, e2, e3⟩ := T.get _ hp
  simp only at e1 e2 e3
  rw [hm] at e1
  cases e1
  exact ⟨c, P, oc, od, fd, sl, e2, e3, TB (c, P) (List.mem_map.mpr ⟨_, hp, rfl⟩), List.mem_map.mpr ⟨_, hp, rfl⟩⟩
theorem head_ok {K : PySem.W.Frag} {h : Heap} {mg : Str → Option Value} {ts : List (Str × Addr × Addr)} (X : K.In h) (T : AllT (GenAt K mg) ts) (tabs : ∀ P ∈ ts.map (·.2.2), h.get? P = some { cls := .none, data := .fields #[] }) :
    (∀ p ∈ ts.map (·.2), h.get? p.2 = some { cls := .none, data := .fields #[] }) ∧ (∀ p ∈ ts.map (·.2), K.lookup p.2 = none) ∧ (∀ p ∈ ts.map (·.2), PySem.W.CodeHd h p.1 p.2) := by
  refine ⟨fun p hp => ?_, fun p hp => ?_, fun p hp => ?_⟩ <;> obtain ⟨q, hq, rfl⟩ := List.mem_map.mp hp
  · exact tabs _ (List.mem_map.mpr ⟨q, hq, rfl⟩)
  · exact (T.get q hq).2.1
  · exact PySem.W.codeHd_of_K X (T.get q hq).1
theorem lawAt_mk {l : PySem.W.OpenLaw} {w : World} {K : PySem.W.Frag} {mg : Str → Option Value} {fa : Addr} {h : Heap} {n : Nat} {G : Cfg} {ts : List (Str × Addr × Addr)} {r : DefR} {x : Str} (law : ∀ ns : List Int, ns.length ≤ 63 → ∃ h, callN G n "law" [.scr ns] [] = .ok (.bl true) h) (ok : Ok G) (X : K.In h) (T : Tx G K mg) (EX : ExcTx l.prog G K mg)
    (gT : AllT (GenAt K mg) ts) (tabs : ∀ P ∈ ts.map (·.2.2), h.get? P = some { cls := .none, data := .fields #[] }) (hg : gensIn G (ts.map (·.1)) = true) (hr : G.defs.lookup ("law" : Str) = some r) (hps : r.ps = [x]) (hmg : mg "law" = some (.ref fa)) (d : DefAt K mg "law" r.st r.ps) :
    LamX.LawAtS l w K (L2.CX l.prog w) n 63 x mg fa h := by
  obtain ⟨t1, t2, t3⟩ := head_ok X gT tabs
  obtain ⟨f, fd, e1, e2, e3⟩ := d
  have e := hmg.symm.trans e1
  cases e
  refine ⟨fd, ts.map (·.2), spF (ts.map (·.2.2)) K mg 1 (callN G n "law"), t1, t2, t3, fun s v => ?_, fun H a ns hl _ hH hs => ?_, fun base _ _ hTB => ?_⟩
  · rw [hps] at e3
    exact .of_eq (e3 [v] rfl)
  · refine law_spT law H a ns hl hs fun p hp => ?_
    obtain ⟨q, hq, rfl⟩ := List.mem_map.mp hp
    exact ⟨#[], hH q.2 (List.mem_map.mpr ⟨q, hq, rfl⟩), by simp [TriplesOk]⟩
  · have GB : GenTx (ts.map (·.2.2)) G K mg base := genTx_mk gT hg fun p hp => ⟨(hTB p hp).code, (hTB p hp).bm, (hTB p hp).gP⟩
    have := fn_ok ok T EX GB n "law" r fa fd hr hmg e2 (P := l.prog) (w := w) (base := base)
    rw [hps] at this
    exact this
end Bk

/-! BkSh: the evaluator's clauses as combinators, one for each construct: what mksh.py prints a def as. -/
namespace Bk
open PySem PySem.Spec PyProof.Rows L2
abbrev EE := Sl → Hs → Res D
abbrev TT := Sl → Hs → Res Bool
abbrev SS := Sl → Hs → Out
abbrev PP := D → Hs → Sl → Option Sl
def rd (i : Nat) : EE := fun s h => (lk s i h).bind fun d h => .ok d h
def rdF (i : Nat) : EE := fun s h => (lk s i h).bind fun d h => freeze d h
def rdD (i : Nat) : EE := fun s h => (lk s i h).bind fun d h => freezeD d h
def eC (d : D) : EE := fun _ h => .ok d h
def eArgs : List EE → Sl → Hs → Res (List D)
  | [], _, h => .ok [] h
  | e :: r, s, h => (e s h).bind fun x h1 => (eArgs r s h1).bind fun xs h2 => .ok (x :: xs) h2
def eBin (b : Bool) (op : Operator) (x y : EE) : EE := fun s h => (x s h).bind fun u h1 => (y s h1).bind fun v h2 => binD b op u v h2
def eNeg (x : EE) : EE := fun s h => (x s h).bind negD
def eNot (x : EE) : EE := fun s h => (x s h).bind fun x h1 => (truthR x h1).bind fun b h2 => .ok (.bl (!b)) h2
def eBool (op : BoolOp) : List EE → EE
  | [], _, _ => .bad
  | [e], s, h => e s h
  | e :: r, s, h => (e s h).bind fun x h1 => (truthR x h1).bind fun b h2 => match op with
    | .And => if b then eBool op r s h2 else .ok x h2
    | .Or => if b then .ok x h2 else eBool op r s h2
def eChain : D → List (CmpOp × EE) → EE
  | x, (op, e) :: r, s, h => (e s h).bind fun y h1 => (cmpR op x y h1).bind fun z h2 => chainK r.isEmpty z h2 fun h3 => eChain y r s h3
  | _, _, _, _ => .bad
def eCmp (x : EE) (r : List (CmpOp × EE)) : EE := fun s h => (x s h).bind fun x h1 => eChain x r s h1
def eIf (t : TT) (a b : EE) : EE := fun s h => (t s h).bind fun k h1 => if k then a s h1 else b s h1
def eTup (es : List EE) : EE := fun s h => (eArgs es s h).bind mkT
def eList (b : Bool) (es : List EE) : EE := fun s h => (eArgs es s h).bind (mkL b)
def ePart : Option EE → Sl → Hs → Res (Option Int)
  | none, _, h => .ok none h
  | some e, s, h => (e s h).bind fun x h1 => match x with
    | .int i => .ok (some i) h1
    | _ => .bad
def eCut (b : Bool) (x : EE) (lo hi : Option EE) : EE := fun s h => (x s h).bind fun x h1 => (ePart lo s h1).bind fun l h2 => (ePart hi s h2).bind fun u h3 => slD b x l u h3
def eIx (x y : EE) : EE := fun s h => (x s h).bind fun x h1 => (y s h1).bind fun y h2 => ixD x y h2
def eDix (x y : EE) : EE := fun s h => (x s h).bind fun x h1 => (y s h1).bind fun y h2 => dixD x y h2
def eDict (t : Bool) : EE := fun _ h => match h with
  | top :: rest => .ok (.loc rest.length top.length) ((top ++ [if t then .dt [] else .dk []]) :: rest)
  | [] => .bad
def eDm (m : Dm) (o : EE) (es : List EE) : EE := fun s h => (o s h).bind fun x h1 => if (dcAt x h1).isSome then (eArgs es s h1).bind fun ys h2 => dmD m x ys h2 else .bad
def eCall (call : Str → List D → Hs → Res D) (f : Str) (es : List EE) : EE := fun s h => (eArgs es s h).bind (call f)
def eBlt (b : Bool) (k : Blt) (es : List EE) : EE := fun s h => (eArgs es s h).bind (bltD b k)
def eIsT (x : EE) (ts : List EE) : EE := fun s h => (x s h).bind fun v h1 => (eArgs ts s h1).bind fun us h2 => match (tyD v h2).bind fun t => isTys t us with
  | some b => if us.length ≤ sizeLine then .ok (.bl b) h2 else .bad
  | none => .bad
def eMth (m : Mth) (o : EE) (es : List EE) : EE := fun s h => (o s h).bind fun x h1 => if (x.own h1).isSome then (eArgs es s h1).bind fun ys h2 => mthD m x ys h2 else .bad
/-! tests -/
def tNot (t : TT) : TT := fun s h => (t s h).bind fun b h1 => .ok (!b) h1
def tBool (op : BoolOp) : List TT → TT
  | [], _, _ => .bad
  | [e], s, h => e s h
  | e :: r, s, h => (e s h).bind fun b h1 => match op with
    | .And => if b then tBool op r s h1 else .ok false h1
    | .Or => if b then .ok true h1 else tBool op r s h1
def tCmp (x : EE) (r : List (CmpOp × EE)) : TT := fun s h => (x s h).bind fun x h1 => (eChain x r s h1).bind fun z h => match z with | .bl b => .ok b h | _ => .bad
def tOf (x : EE) : TT := fun s h => (x s h).bind truthR
/-! walks, targets -/
def wSeq (x : EE) : Sl → Hs → Res Wk := fun s h => (x s h).bind walkSeq
def wR1 (x : EE) : Sl → Hs → Res Wk := fun s h => (x s h).bind (walkRng (.int 0))
def wR2 (x y : EE) : Sl → Hs → Res Wk := fun s h => (x s h).bind fun v h1 => (y s h1).bind (walkRng v)
def wR3 (x y z : EE) : Sl → Hs → Res Wk := fun s h => (x s h).bind fun v h1 => (y s h1).bind fun w h2 => (z s h2).bind (walkRng3 v w)
def wZip (x y : EE) : Sl → Hs → Res Wk := fun s h => (x s h).bind fun v h1 => (y s h1).bind (walkZip v)
def wEnm (x : EE) : Sl → Hs → Res Wk := fun s h => (x s h).bind walkEnm
def pV (i : Nat) : PP := fun d _ s => some (s.set i (some d))
def pAll (h : Hs) : List PP → List D → Sl → Option Sl
  | [], [], s => some s
  | p :: r, d :: ds, s => (p d h s).bind fun s1 => pAll h r ds s1
  | _, _, _ => none
def pT (ps : List PP) : PP := fun d h s => (d.seq h).bind fun ds => pAll h ps ds s
def gN (p : PP) : D → Sl → Hs → Res Sl := fun d s h => match p d h s with
  | some s' => .ok s' h
  | none => .bad
def gIx (o i : EE) : D → Sl → Hs → Res Sl := fun d s h => (noX (o s h)).bind fun x h1 => (noX (i s h1)).bind fun y h2 => (setD x y d h2).bind fun _ h3 => .ok s h3
def gDix (o i : EE) : D → Sl → Hs → Res Sl := fun d s h => (noX (o s h)).bind fun x h1 => (noX (i s h1)).bind fun y h2 => (dsetD x y d h2).bind fun _ h3 => .ok s h3
def sPre (is : List Nat) (f : SS) : SS := fun s h => preF is f s h
def gIx2 (f g : D → Sl → Hs → Res Sl) : D → Sl → Hs → Res Sl := fun d s h => gE2 f g d s h
def cTurn (p : PP) (t : Option TT) (e : EE) (s0 : Sl) (d : D) (h2 : Hs) : Res (Option D) := match p d h2 s0 with
  | none => .bad
  | some s2 => (match t with
      | none => Res.ok true h2
      | some t => noX (t s2 h2)).bind fun b h4 => if b then (noX (e s2 h4)).bind fun y h5 => .ok (some y) h5 else .ok none h4
def eComp (b : Bool) (own : List Nat) (w : Sl → Hs → Res Wk) (p : PP) (t : Option TT) (e : EE) : EE := fun s h =>
  (w s h).bind fun w h1 => (compL w (cTurn p t e (clear s own)) w.most 0 [] h1).bind fun ys h6 => mkL b ys h6
/-! generator expressions -/
abbrev XE := List PyData → Sl → Hs → Option PyData
abbrev XB := List PyData → Sl → Hs → Option Bool
def xV (k : Nat) : XE := fun ps _ _ => ps[k]?
def xR (i : Nat) : XE := fun _ s h => match s[i]? with
  | some (some d) => (d.now h).py
  | _ => none
def xC (p : PyData) : XE := fun _ _ _ => some p
def xG (d : D) : XE := fun _ _ _ => d.py
def xLen (a : XE) : XE := fun ps s h => match a ps s h with
  | some (.tuple xs) => if xs.length ≤ 1000000000 then some (.int xs.length) else none
  | some (.list xs) => if xs.length ≤ 1000000000 then some (.int xs.length) else none
  | _ => none
def xNeg (a : XE) : XE := fun ps s h => match a ps s h with
  | some (.int i) => some (.int (-i))
  | _ => none
def xAdd (a b : XE) : XE := fun ps s h => match a ps s h, b ps s h with
  | some (.int i), some (.int j) => some (.int (i + j))
  | _, _ => none
def xSub (a b : XE) : XE := fun ps s h => match a ps s h, b ps s h with
  | some (.int i), some (.int j) => some (.int (i - j))
  | _, _ => none
def xIx (a i : XE) : XE := fun ps s h => match a ps s h, i ps s h with
  | some (.tuple xs), some (.int i) => if -1000000000 ≤ i ∧ i ≤ 1000000000 ∧ xs.length ≤ 1000000000 then atI xs i else none
  | some (.list xs), some (.int i) => if -1000000000 ≤ i ∧ i ≤ 1000000000 ∧ xs.length ≤ 1000000000 then atI xs i else none
  | _, _ => none
def xChain (x : PyData) : List (CmpOp × XE) → XE
  | [(op, e)], ps, s, h => (e ps s h).bind fun y => (cmpP op x y).map .bool
  | (op, e) :: f :: r, ps, s, h => (e ps s h).bind fun y => (cmpP op x y).bind fun b => if b then xChain y (f :: r) ps s h else some (.bool false)
  | [], _, _, _ => none
def xCmp (a : XE) (r : List (CmpOp × XE)) : XE := fun ps s h => (a ps s h).bind fun x => xChain x r ps s h
def xBool (op : BoolOp) : List XE → XE
  | [e], ps, s, h => e ps s h
  | e :: f :: r, ps, s, h => match e ps s h with
    | some (.bool b) => match op with
      | .And => if b then xBool op (f :: r) ps s h else some (.bool false)
      | .Or => if b then some (.bool true) else xBool op (f :: r) ps s h
    | _ => none
  | [], _, _, _ => none
def yYes : XB := fun _ _ _ => some true
def yCmp (a : XE) (op : CmpOp) (b : XE) : XB := fun ps s h => match a ps s h, b ps s h with
  | some x, some y => cmpP op x y
  | _, _ => none
def gwSeq (x : EE) : Sl → Hs → Res (List D) := fun s h => (x s h).bind seqL
def gwR1 (x : EE) : Sl → Hs → Res (List D) := fun s h => (x s h).bind (rngL (.int 0))
def gwR2 (x y : EE) : Sl → Hs → Res (List D) := fun s h => (x s h).bind fun v h1 => (y s h1).bind (rngL v)
def gwEnm (x : EE) : Sl → Hs → Res (List D) := fun s h => (x s h).bind fun v h1 => (seqL v h1).bind fun xs h2 => .ok (xs.zipIdx.map fun p => .tup [.int (p.2 : Nat), p.1]) h2
def gwZip (x y : EE) : Sl → Hs → Res (List D) := fun s h => (x s h).bind fun v h1 => (y s h1).bind (zipD v)
def xTurn (t : XB) (e : XE) (s : Sl) (h : Hs) (ps : List PyData) : Option (Option PyData) :=
  (t ps s h).bind fun b => if b then (e ps s h).bind fun q => if isRes q then some (some q) else none else some none
def eGen (k : Con) (bd : List Nat) (w : Sl → Hs → Res (List D)) (own : List Str) (t : XB) (e : XE) : EE := fun s h =>
  (if bd.all (bound s) then (w s h).bind fun xs h1 => match (gPres own xs).bind (gAll fun ps => xTurn t e s h1 ps) with
    | some qs => .ok qs h1
    | none => .bad
  else .bad).bind (conD k)
def eLenSet (x : EE) : EE := fun s h => (x s h).bind lenSet
def eRngL (b : Bool) (x : EE) : EE := fun s h => (x s h).bind (rngD b)
def eSRev (b : Bool) (x : EE) : EE := fun s h => (x s h).bind (sortRev b)
def eRev (b : Bool) (x : EE) : EE := fun s h => (x s h).bind (revD b)
def eSortSet (b : Bool) (x : EE) : EE := fun s h => (x s h).bind (sortSet b)
/-! statements -/
def blk : List SS → SS
  | [], s, h => .next s h
  | st :: r, s, h => (st s h).seq (blk r)
def sPass : SS := fun s h => .next s h
def sBrk : SS := fun s h => .brk s h
def sCont : SS := fun s h => .cont s h
def sRetN : SS := fun _ h => .ret .non h
def sRet (e : EE) : SS := fun s h => (e s h).out s fun d h1 => .ret d h1
def sDrop (e : EE) : SS := fun s h => (e s h).out s fun _ h1 => .next s h1
def sSet (i : Nat) (e : EE) : SS := fun s h => (e s h).out s fun d h1 => .next (s.set i (some d)) h1
def sAsg (e : EE) (g : D → Sl → Hs → Res Sl) : SS := fun s h => (e s h).out s fun d h1 => (g d s h1).out s fun s2 h2 => .next s2 h2
def setIs (s : Sl) : List Nat → List D → Option Sl
  | [], [] => some s
  | i :: is, d :: ds => setIs (s.set i (some d)) is ds
  | _, _ => none
def sPar (is : List Nat) (es : List EE) : SS := fun s h => (eArgs es s h).out s fun ds h1 => match setIs s is ds with
  | some s2 => .next s2 h1
  | none => .bad
def sAug (i : Nat) (op : Operator) (e : EE) : SS := fun s h => (lk s i h).out s fun a h1 => (e s h1).out s fun b h2 => match augD op a b with
  | some d => .next (s.set i (some d)) h2
  | none => (extR op a b h2).out s fun d h3 => .next (s.set i (some d)) h3
def sAugIx (o i : EE) (op : Operator) (e : EE) : SS := fun s h => (o s h).out s fun x h1 => (i s h1).out s fun y h2 => (ixL x y h2).out s fun a h3 => (e s h3).out s fun b h4 => match augD op a b with
  | some d => (setD x y d h4).out s fun _ h5 => .next s h5
  | none => .bad
def sIf (t : TT) (a b : List SS) : SS := fun s h => (t s h).out s fun k h1 => if k then blk a s h1 else blk b s h1
def sWhile (cl : List Nat) (t : TT) (b : List SS) : SS := fun s h => whileL t (blk b) cl wmost s h
def sFor (cl : List Nat) (w : Sl → Hs → Res Wk) (g : D → Sl → Hs → Res Sl) (b : List SS) : SS := fun s h => (w s h).out s fun w h1 => forL w (fun d s h => (g d s h).out s fun s2 h2 => blk b s2 h2) cl w.most 0 s h1
def sRaise (call : Str → List D → Hs → Res D) (x : Str) (n : Nat) (fi : List (Str × Nat)) (es : List EE) : SS := fun s h => raiseO call x n fi (eArgs es s h) s h
def hF (f : Str) : List (Str × D) → Option D := fun fs => fs.lookup f
def hC (d : D) : List (Str × D) → Option D := fun _ => some d
def hAll : List (List (Str × D) → Option D) → List (Str × D) → Option (List D)
  | [], _ => some []
  | e :: r, fs => (e fs).bind fun d => (hAll r fs).map fun ds => d :: ds
def hTup (l : List (List (Str × D) → Option D)) : List (Str × D) → Option D := fun fs => (hAll l fs).map .tup
/-- tests of the exception -/
def hIs (b : Bool) : List (Str × D) → Option Bool := fun _ => some b
def hTy (f : Str) (T : String) : List (Str × D) → Option Bool := fun fs => (fs.lookup f).bind fun d => (tyD d []).bind fun t => isTy t T
def hNot (t : List (Str × D) → Option Bool) : List (Str × D) → Option Bool := fun fs => (t fs).map (!·)
def hBo (op : BoolOp) : List (List (Str × D) → Option Bool) → List (Str × D) → Option Bool
  | [], _ => none
  | [e], fs => e fs
  | e :: r, fs => (e fs).bind fun b => match op with
    | .And => if b then hBo op r fs else some false
    | .Or => if b then some true else hBo op r fs
def hIf (t : List (Str × D) → Option Bool) (a b : List (Str × D) → Option D) : List (Str × D) → Option D := fun fs => (t fs).bind fun q => if q then a fs else b fs
def sTry (b : List SS) (x : Str) (i : Nat) (hnd : List (Str × D) → Option D) : SS := fun s h => tryO x i hnd (blk b s h)
/-- what a call makes of its body's end -/
def finO (share : Bool) (n : Nat) (o : Out) : Res D := if share then match o with
    | .next _ h' => .ok .non h'
    | .ret d h' => .ok d h'
    | .exc e _ h' => .exc e h'
    | _ => .bad
  else match o with
    | .next _ (_ :: h') => .ok .non h'
    | .ret d (_ :: h') => if d.ok n then .ok d h' else .bad
    | .exc e _ (_ :: h') => if e.fs.all (fun p => p.2.ok n) then .exc e h' else .bad
    | _ => .bad
end Bk

/-! BkLem: running the combinators: clauses for simp, loops by invariants, equality of plain data, the laws' draws. -/
namespace Bk
open PySem PySem.Spec PyProof.Rows L2
/-! ### clauses -/
section
variable {s : Sl} {h : Hs}
@[simp] theorem rd_zero (d : D) : rd 0 (some d :: s) h = .ok d h := id rfl
@[simp] theorem rd_succ (i : Nat) (x : Option D) : rd (i + 1) (x :: s) h = rd i s h := id rfl
@[simp] theorem lk_zero (d : D) : lk (some d :: s) 0 h = .ok d h := id rfl
@[simp] theorem lk_succ (i : Nat) (x : Option D) : lk (x :: s) (i + 1) h = lk s i h := id rfl
@[simp] theorem rdF_zero (d : D) : rdF 0 (some d :: s) h = freeze d h := id rfl
@[simp] theorem rdD_zero (d : D) : rdD 0 (some d :: s) h = freezeD d h := id rfl
@[simp] theorem rdD_succ (i : Nat) (x : Option D) : rdD (i + 1) (x :: s) h = rdD i s h := id rfl
@[simp] theorem rdF_succ (i : Nat) (x : Option D) : rdF (i + 1) (x :: s) h = rdF i s h := id rfl
@[simp] theorem eC_ap (d : D) : eC d s h = .ok d h := id rfl
@[simp] theorem eArgs_nil : eArgs [] s h = .ok [] h := id rfl
@[simp] theorem eArgs_cons (e : EE) (r : List EE) : eArgs (e :: r) s h = (e s h).bind fun x h1 => (eArgs r s h1).bind fun xs h2 => .ok (x :: xs) h2 := id rfl
@[simp] theorem eBin_ap (b op) (x y : EE) : eBin b op x y s h = (x s h).bind fun u h1 => (y s h1).bind fun v h2 => binD b op u v h2 := id rfl
@[simp] theorem eNeg_ap (x : EE) : eNeg x s h = (x s h).bind negD := id rfl
@[simp] theorem eNot_ap (x : EE) : eNot x s h = (x s h).bind fun x h1 => (truthR x h1).bind fun b h2 => .ok (.bl (!b)) h2 := id rfl
@[simp] theorem eBool_one (op) (x : EE) : eBool op [x] s h = x s h := id rfl
@[simp] theorem eBool_and (e f : EE) (r : List EE) : eBool .And (e :: f :: r) s h = (e s h).bind fun x h1 => (truthR x h1).bind fun b h2 => if b then eBool .And (f :: r) s h2 else .ok x h2 := id rfl
@[simp] theorem eBool_or (e f : EE) (r : List EE) : eBool .Or (e :: f :: r) s h = (e s h).bind fun x h1 => (truthR x h1).bind fun b h2 => if b then .ok x h2 else eBool .Or (f :: r) s h2 := id rfl
@[simp] theorem eChain_cons (x : D) (op) (e : EE) (r) : eChain x ((op, e) :: r) s h = (e s h).bind fun y h1 => (cmpR op x y h1).bind fun z h2 => chainK r.isEmpty z h2 fun h3 => eChain y r s h3 := id rfl
@[simp] theorem chainK_last (z : D) (nx) : chainK true z h nx = .ok z h := id rfl
@[simp] theorem chainK_t (nx) : chainK false (.bl true) h nx = nx h := id rfl
@[simp] theorem chainK_f (nx) : chainK false (.bl false) h nx = .ok (.bl false) h := id rfl
theorem chainK_b (b : Bool) (nx) : chainK false (.bl b) h nx = if b then nx h else .ok (.bl false) h := by cases b <;> rfl
@[simp] theorem eCmp_ap (x : EE) (r) : eCmp x r s h = (x s h).bind fun x h1 => eChain x r s h1 := id rfl
@[simp] theorem eIf_ap (t : TT) (a b : EE) : eIf t a b s h = (t s h).bind fun k h1 => if k then a s h1 else b s h1 := id rfl
@[simp] theorem eTup_ap (es : List EE) : eTup es s h = (eArgs es s h).bind mkT := id rfl
@[simp] theorem eList_ap (b) (es : List EE) : eList b es s h = (eArgs es s h).bind (mkL b) := id rfl
@[simp] theorem ePart_none : ePart none s h = .ok none h := id rfl
@[simp] theorem ePart_some (e : EE) : ePart (some e) s h = (e s h).bind fun x h1 => match x with | .int i => .ok (some i) h1 | _ => .bad := id rfl
@[simp] theorem eCut_ap (b) (x : EE) (lo hi : Option EE) : eCut b x lo hi s h = (x s h).bind fun x h1 => (ePart lo s h1).bind fun l h2 => (ePart hi s h2).bind fun u h3 => slD b x l u h3 := id rfl
@[simp] theorem eIx_ap (x y : EE) : eIx x y s h = (x s h).bind fun x h1 => (y s h1).bind fun y h2 => ixD x y h2 := id rfl
@[simp] theorem eDix_ap (x y : EE) : eDix x y s h = (x s h).bind fun x h1 => (y s h1).bind fun y h2 => dixD x y h2 := id rfl
@[simp] theorem eDict_ap (t : Bool) (top : List Ob) (rest : Hs) : eDict t s (top :: rest) = .ok (.loc rest.length top.length) ((top ++ [if t then .dt [] else .dk []]) :: rest) := id rfl
@[simp] theorem eDm_ap (m) (o : EE) (es : List EE) : eDm m o es s h = (o s h).bind fun x h1 => if (dcAt x h1).isSome then (eArgs es s h1).bind fun ys h2 => dmD m x ys h2 else .bad := id rfl
@[simp] theorem gDix_ap (o i : EE) (d : D) : gDix o i d s h = (noX (o s h)).bind fun x h1 => (noX (i s h1)).bind fun y h2 => (dsetD x y d h2).bind fun _ h3 => .ok s h3 := id rfl
@[simp] theorem eCall_ap (call) (f : Str) (es : List EE) : eCall call f es s h = (eArgs es s h).bind (call f) := id rfl
@[simp] theorem eBlt_ap (b k) (es : List EE) : eBlt b k es s h = (eArgs es s h).bind (bltD b k) := id rfl
@[simp] theorem eIsT_ap (x : EE) (ts : List EE) : eIsT x ts s h = (x s h).bind fun v h1 => (eArgs ts s h1).bind fun us h2 => match (tyD v h2).bind fun t => isTys t us with | some b => if us.length ≤ sizeLine then .ok (.bl b) h2 else .bad | none => .bad := id rfl
@[simp] theorem eMth_ap (m) (o : EE) (es : List EE) : eMth m o es s h = (o s h).bind fun x h1 => if (x.own h1).isSome then (eArgs es s h1).bind fun ys h2 => mthD m x ys h2 else .bad := id rfl
@[simp] theorem tNot_ap (t : TT) : tNot t s h = (t s h).bind fun b h1 => .ok (!b) h1 := id rfl
@[simp] theorem tBool_one (op) (x : TT) : tBool op [x] s h = x s h := id rfl
@[simp] theorem tBool_and (e f : TT) (r : List TT) : tBool .And (e :: f :: r) s h = (e s h).bind fun b h1 => if b then tBool .And (f :: r) s h1 else .ok false h1 := id rfl
@[simp] theorem tBool_or (e f : TT) (r : List TT) : tBool .Or (e :: f :: r) s h = (e s h).bind fun b h1 => if b then .ok true h1 else tBool .Or (f :: r) s h1 := id rfl
@[simp] theorem tCmp_ap (x : EE) (r) : tCmp x r s h = (x s h).bind fun x h1 => (eChain x r s h1).bind fun z h => match z with | .bl b => .ok b h | _ => .bad := id rfl
@[simp] theorem tOf_ap (x : EE) : tOf x s h = (x s h).bind truthR := id rfl
@[simp] theorem wSeq_ap (x : EE) : wSeq x s h = (x s h).bind walkSeq := id rfl
@[simp] theorem wR1_ap (x : EE) : wR1 x s h = (x s h).bind (walkRng (.int 0)) := id rfl
@[simp] theorem wR2_ap (x y : EE) : wR2 x y s h = (x s h).bind fun v h1 => (y s h1).bind (walkRng v) := id rfl
@[simp] theorem wR3_ap (x y z : EE) : wR3 x y z s h = (x s h).bind fun v h1 => (y s h1).bind fun w h2 => (z s h2).bind (walkRng3 v w) := id rfl
@[simp] theorem wEnm_ap (x : EE) : wEnm x s h = (x s h).bind walkEnm := id rfl
@[simp] theorem pV_ap (i : Nat) (d : D) : pV i d h s = some (s.set i (some d)) := id rfl
@[simp] theorem pAll_nil : pAll h [] [] s = some s := id rfl
@[simp] theorem pAll_cons (p : PP) (r d ds) : pAll h (p :: r) (d :: ds) s = (p d h s).bind fun s1 => pAll h r ds s1 := id rfl
@[simp] theorem pT_tup (ps : List PP) (ds) : pT ps (.tup ds) h s = pAll h ps ds s := id rfl
@[simp] theorem pT_lst (ps : List PP) (ds) : pT ps (.lst ds) h s = pAll h ps ds s := id rfl
@[simp] theorem gN_ap (p : PP) (d : D) : gN p d s h = match p d h s with | some s' => .ok s' h | none => .bad := id rfl
theorem sPre_one {i : Nat} {f : SS} {s : Sl} {h : Hs} {d d' : D} {h' : Hs} (e1 : s[i]? = some (some d)) (e2 : frzD 3 d h = some (d', h')) : sPre [i] f s h = f (s.set i (some d')) h' := by
  show preF [i] f s h = _
  have : frzS [i] s h = some (s.set i (some d'), h') := by
    unfold frzS
    rw [e1]
    show (frzD 3 d h).bind _ = _
    rw [e2]; rfl
  unfold preF
  rw [this]
@[simp] theorem gIx2_ap (f g : D → Sl → Hs → Res Sl) (a b : D) : gIx2 f g (.tup [a, b]) s h = (noX (f a s h)).bind fun s1 h1 => g b s1 h1 := id rfl
@[simp] theorem gIx_ap (o i : EE) (d : D) : gIx o i d s h = (noX (o s h)).bind fun x h1 => (noX (i s h1)).bind fun y h2 => (setD x y d h2).bind fun _ h3 => .ok s h3 := id rfl
@[simp] theorem noX_ok {α : Type} (a : α) : noX (.ok a h) = .ok a h := id rfl
@[simp] theorem eComp_ap (b own w p t) (e : EE) : eComp b own w p t e s h = (w s h).bind fun w h1 => (compL w (cTurn p t e (clear s own)) w.most 0 [] h1).bind fun ys h6 => mkL b ys h6 := id rfl
@[simp] theorem blk_nil : blk [] s h = .next s h := id rfl
@[simp] theorem blk_cons (x : SS) (r) : blk (x :: r) s h = (x s h).seq (blk r) := id rfl
@[simp] theorem sPass_ap : sPass s h = .next s h := id rfl
@[simp] theorem sBrk_ap : sBrk s h = .brk s h := id rfl
@[simp] theorem sCont_ap : sCont s h = .cont s h := id rfl
@[simp] theorem sRetN_ap : sRetN s h = .ret .non h := id rfl
@[simp] theorem sRet_ap (e : EE) : sRet e s h = (e s h).out s fun d h1 => .ret d h1 := id rfl
@[simp] theorem sDrop_ap (e : EE) : sDrop e s h = (e s h).out s fun _ h1 => .next s h1 := id rfl
@[simp] theorem sSet_ap (i) (e : EE) : sSet i e s h = (e s h).out s fun d h1 => .next (s.set i (some d)) h1 := id rfl
@[simp] theorem sAsg_ap (e : EE) (g) : sAsg e g s h = (e s h).out s fun d h1 => (g d s h1).out s fun s2 h2 => .next s2 h2 := id rfl
@[simp] theorem setIs_nil : setIs s [] [] = some s := id rfl
@[simp] theorem setIs_cons (i is d ds) : setIs s (i :: is) (d :: ds) = setIs (s.set i (some d)) is ds := id rfl
@[simp] theorem sPar_ap (is) (es : List EE) : sPar is es s h = (eArgs es s h).out s fun ds h1 => match setIs s is ds with | some s2 => .next s2 h1 | none => .bad := id rfl
@[simp] theorem sAug_ap (i op) (e : EE) : sAug i op e s h = (lk s i h).out s fun a h1 => (e s h1).out s fun b h2 => match augD op a b with | some d => .next (s.set i (some d)) h2 | none => (extR op a b h2).out s fun d h3 => .next (s.set i (some d)) h3 := id rfl
@[simp] theorem sAugIx_ap (o i op) (e : EE) : sAugIx o i op e s h = (o s h).out s fun x h1 => (i s h1).out s fun y h2 => (ixL x y h2).out s fun a h3 => (e s h3).out s fun b h4 => match augD op a b with | some d => (setD x y d h4).out s fun _ h5 => .next s h5 | none => .bad := id rfl
@[simp] theorem ixL_loc (l k i) : ixL (.loc l k) (.int i) h = match (cur h l k).bind fun xs => atI xs i with | some v => .ok v h | none => .bad := id rfl
@[simp] theorem raiseO_ap (call : Str → List D → Hs → Res D) (x n fi) (ds : List D) (h1 : Hs) {a : D} {h0 : Hs} (hd : call "" [] h = .ok a h0) : raiseO call x n fi (.ok ds h1) s h = if ds.all D.imm && decide (ds.length ≤ 1000) && decide (ds.length + 1 = n) then .exc ⟨x, excFs fi ds⟩ s h1 else .bad := by
  unfold raiseO
  rw [hd] <;> rfl
@[simp] theorem sRaise_ap (call : Str → List D → Hs → Res D) (x n fi) (es : List EE) : sRaise call x n fi es s h = raiseO call x n fi (eArgs es s h) s h := id rfl
@[simp] theorem sTry_ap (b : List SS) (x i hnd) : sTry b x i hnd s h = tryO x i hnd (blk b s h) := id rfl
@[simp] theorem tryO_next (x i hnd) : tryO x i hnd (.next s h) = .next s h := id rfl
@[simp] theorem tryO_ret (x i hnd d) : tryO x i hnd (.ret d h) = .ret d h := id rfl
@[simp] theorem tryO_exc (x i hnd e) : tryO x i hnd (.exc e s h) = if e.cls = x ∧ i < s.length then match hnd e.fs with | some d => .ret d h | none => .bad else .bad := id rfl
@[simp] theorem hF_ap (f fs) : hF f fs = fs.lookup f := id rfl
@[simp] theorem hC_ap (d fs) : hC d fs = some d := id rfl
@[simp] theorem hAll_nil (fs) : hAll [] fs = some [] := id rfl
@[simp] theorem hAll_cons (e r fs) : hAll (e :: r) fs = (e fs).bind fun d => (hAll r fs).map fun ds => d :: ds := id rfl
@[simp] theorem hTup_ap (l fs) : hTup l fs = (hAll l fs).map .tup := id rfl
@[simp] theorem hIs_ap (b fs) : hIs b fs = some b := id rfl
@[simp] theorem hNot_ap (t fs) : hNot t fs = (t fs).map (!·) := id rfl
@[simp] theorem hIf_ap (t a b fs) : hIf t a b fs = (t fs).bind fun q => if q then a fs else b fs := id rfl
@[simp] theorem hBo_one (op e fs) : hBo op [e] fs = e fs := id rfl
@[simp] theorem hBo_and (e f r fs) : hBo .And (e :: f :: r) fs = (e fs).bind fun b => if b then hBo .And (f :: r) fs else some false := id rfl
@[simp] theorem hBo_or (e f r fs) : hBo .Or (e :: f :: r) fs = (e fs).bind fun b => if b then some true else hBo .Or (f :: r) fs := id rfl
@[simp] theorem hTy_ap (f T fs) : hTy f T fs = (fs.lookup f).bind fun d => (tyD d []).bind fun t => isTy t T := id rfl
@[simp] theorem imm_int (i) : (D.int i).imm = true := id rfl
@[simp] theorem imm_str (i) : (D.str i).imm = true := id rfl
@[simp] theorem sIf_ap (t : TT) (a b) : sIf t a b s h = (t s h).out s fun k h1 => if k then blk a s h1 else blk b s h1 := id rfl
@[simp] theorem sWhile_ap (cl) (t : TT) (b) : sWhile cl t b s h = whileL t (blk b) cl wmost s h := id rfl
@[simp] theorem sFor_ap (cl w g b) : sFor cl w g b s h = (w s h).out s fun w h1 => forL w (fun d s h => (g d s h).out s fun s2 h2 => blk b s2 h2) cl w.most 0 s h1 := id rfl
/-! prims -/
@[simp] theorem bin_int (b op i j) : binD b op (.int i) (.int j) h = match intOp op i j with | some k => .ok (.int k) h | none => .bad := id rfl
@[simp] theorem intOp_add (i j : Int) : intOp .Add i j = some (i + j) := id rfl
@[simp] theorem intOp_sub (i j : Int) : intOp .Sub i j = some (i - j) := id rfl
@[simp] theorem intOp_mul (i j : Int) : intOp .Mult i j = if (-(2 ^ 64) < i ∧ i < 2 ^ 64) ∨ (-(2 ^ 64) < j ∧ j < 2 ^ 64) then some (i * j) else none := id rfl
@[simp] theorem intOp_div (i j : Int) : intOp .FloorDiv i j = if j ≠ 0 ∧ j.natAbs < 1073741824 then some (i.fdiv j) else none := id rfl
@[simp] theorem intOp_mod (i j : Int) : intOp .Mod i j = if j ≠ 0 then some (i.fmod j) else none := id rfl
@[simp] theorem negD_int (i) : negD (.int i) h = .ok (.int (-i)) h := id rfl
@[simp] theorem aug_add (m n : Int) : augD .Add (.int m) (.int n) = some (.int (m + n)) := id rfl
@[simp] theorem aug_sub (m n : Int) : augD .Sub (.int m) (.int n) = some (.int (m - n)) := id rfl
@[simp] theorem truthR_bl (b) : truthR (.bl b) h = .ok b h := id rfl
@[simp] theorem truthR_int (i) : truthR (.int i) h = .ok (i != 0) h := id rfl
@[simp] theorem truthR_non : truthR .non h = .ok false h := id rfl
@[simp] theorem mkT_ap (xs) : mkT xs h = if xs.length ≤ sizeLine then .ok (.tup xs) h else .bad := id rfl
@[simp] theorem mkL_f (xs) : mkL false xs h = if xs.length ≤ sizeLine then .ok (.lst xs) h else .bad := id rfl
@[simp] theorem mkL_t (xs top rest) : mkL true xs (top :: rest) = if xs.length ≤ sizeLine then .ok (.loc rest.length top.length) ((top ++ [.lst xs]) :: rest) else .bad := id rfl
theorem cmpR_of {op x y} {b : Bool} (e : cmpD op x y h = some b) : cmpR op x y h = .ok (.bl b) h := by unfold cmpR; rw [e]
@[simp] theorem cmp_lt (i j : Int) : cmpR .Lt (.int i) (.int j) h = .ok (.bl (decide (i < j))) h := id rfl
@[simp] theorem cmp_le (i j : Int) : cmpR .LtE (.int i) (.int j) h = .ok (.bl (decide (i ≤ j))) h := id rfl
@[simp] theorem cmp_gt (i j : Int) : cmpR .Gt (.int i) (.int j) h = .ok (.bl (decide (j < i))) h := id rfl
@[simp] theorem cmp_ge (i j : Int) : cmpR .GtE (.int i) (.int j) h = .ok (.bl (decide (j ≤ i))) h := id rfl
@[simp] theorem cmp_is (x y) : cmpR .Is x y h = match isD x y with | some b => .ok (.bl b) h | none => .bad := id rfl
@[simp] theorem cmp_isn (x y) : cmpR .IsNot x y h = match isD x y with | some b => .ok (.bl !b) h | none => .bad := by
  show (match (isD x y).map (!·) with | some b => Res.ok (D.bl b) h | none => .bad) = _
  cases isD x y <;> rfl
@[simp] theorem ix_tup (xs i) : ixD (.tup xs) (.int i) h = match atI xs i with | some v => .ok v h | none => .bad := id rfl
@[simp] theorem ix_lst (xs i) : ixD (.lst xs) (.int i) h = match atI xs i with | some v => .ok v h | none => .bad := id rfl
theorem ix_loc {l k xs} (e : gt h l k = some (.lst xs)) (i) : ixD (.loc l k) (.int i) h = match atI xs i with | some v => .ok v h | none => .bad := by
  show (match (cur h l k).bind fun xs => atI xs i with | some v => Res.ok v h | none => .bad) = _
  rw [cur_of e]; rfl
@[simp] theorem atI_zero {α : Type} (x : α) (xs) : atI (x :: xs) 0 = some x := by simp [atI, ixN]
theorem atI_nat {α : Type} (xs : List α) (n : Nat) : atI xs (n : Int) = xs[n]? := by
  unfold atI ixN
  simp only [Int.natCast_nonneg, if_true, Int.toNat_natCast, Int.ofNat_lt]
  by_cases h : n < xs.length
  · simp [h]
  · simp [h]
@[simp] theorem atI_one {α : Type} (x y : α) (xs) : atI (x :: y :: xs) 1 = some y := atI_nat _ 1
@[simp] theorem atI_two {α : Type} (x y z : α) (xs) : atI (x :: y :: z :: xs) 2 = some z := atI_nat _ 2
@[simp] theorem atI_three {α : Type} (x y z u : α) (xs) : atI (x :: y :: z :: u :: xs) 3 = some u := atI_nat _ 3
theorem atI_of {α : Type} {xs : List α} {i : Int} (h0 : 0 ≤ i) (h1 : i < xs.length) : atI xs i = some (xs[i.toNat]'(by omega)) := by
  obtain ⟨n, rfl⟩ := Int.eq_ofNat_of_zero_le h0
  rw [atI_nat]
  simp
theorem atI_map {α β : Type} (f : α → β) (xs : List α) (i : Int) : atI (xs.map f) i = (atI xs i).map f := by
  unfold atI
  rw [List.length_map]
  cases ixN xs.length i <;> simp
end
/-! ### ends of blocks -/
structure Po where
  n : Sl → Hs → Prop
  r : D → Hs → Prop
  b : Sl → Hs → Prop := fun _ _ => False
  c : Sl → Hs → Prop := fun _ _ => False
  e : Exn → Sl → Hs → Prop := fun _ _ _ => False
def Out.satX (o : Out) (P : Po) : Prop := match o with
  | .next s h => P.n s h
  | .ret d h => P.r d h
  | .brk s h => P.b s h
  | .cont s h => P.c s h
  | .exc e s h => P.e e s h
  | .bad => False
/-- a structure, so that nobody's look for a goal's form runs the program -/
structure Out.sat (o : Out) (P : Po) : Prop where
  out : o.satX P
section
variable {s : Sl} {h : Hs} {P : Po}
@[simp] theorem sat_next : (Out.next s h).sat P = P.n s h := propext ⟨fun q => q.out, fun q => ⟨q⟩⟩
@[simp] theorem sat_ret (d) : (Out.ret d h).sat P = P.r d h := propext ⟨fun q => q.out, fun q => ⟨q⟩⟩
@[simp] theorem sat_brk : (Out.brk s h).sat P = P.b s h := propext ⟨fun q => q.out, fun q => ⟨q⟩⟩
@[simp] theorem sat_exc (e) : (Out.exc e s h).sat P = P.e e s h := propext ⟨fun q => q.out, fun q => ⟨q⟩⟩
@[simp] theorem sat_cont : (Out.cont s h).sat P = P.c s h := propext ⟨fun q => q.out, fun q => ⟨q⟩⟩
theorem sat_seq {o : Out} {f} (q : o.sat { P with n := fun s h => (f s h).sat P }) : (o.seq f).sat P := by
  replace q := q.out
  cases o with
  | next s h => exact q
  | _ => exact ⟨q⟩
theorem Out.sat.imp {o : Out} {P Q : Po} (p : o.sat P) (n : ∀ s h, P.n s h → Q.n s h) (r : ∀ d h, P.r d h → Q.r d h) (b : ∀ s h, P.b s h → Q.b s h) (c : ∀ s h, P.c s h → Q.c s h) (e : ∀ e s h, P.e e s h → Q.e e s h := by exact fun _ _ _ h => h) : o.sat Q := by
  replace p := p.out
  refine ⟨?_⟩
  cases o with
  | next s h => exact n s h p
  | ret d h => exact r d h p
  | brk s h => exact b s h p
  | cont s h => exact c s h p
  | exc x s h => exact e x s h p
  | bad => exact p
end
theorem fin_of {n : Nat} {o : Out} {R : D → Hs → Prop} (q : o.sat { n := fun _ h => ∃ t h', h = t :: h' ∧ R .non h', r := fun d h => ∃ t h', h = t :: h' ∧ d.ok n = true ∧ R d h' }) : ∃ d h', finO false n o = .ok d h' ∧ R d h' := by
  replace q := q.out
  cases o with
  | next s h =>
    obtain ⟨t, h', rfl, q⟩ := q
    exact ⟨_, _, rfl, q⟩
  | ret d h =>
    obtain ⟨t, h', rfl, k, q⟩ := q
    exact ⟨d, h', by show (if d.ok n = true then _ else _) = _; rw [if_pos k], q⟩
  | _ => exact q.elim
theorem fin_eq {n : Nat} {o : Out} {d0 : D} {h0 : Hs} (q : o.sat { n := fun _ h => ∃ t, h = t :: h0 ∧ d0 = .non, r := fun d h => ∃ t, h = t :: h0 ∧ d.ok n = true ∧ d = d0 }) : finO false n o = .ok d0 h0 := by
  replace q := q.out
  cases o with
  | next s h =>
    obtain ⟨t, rfl, rfl⟩ := q
    rfl
  | ret d h =>
    obtain ⟨t, rfl, k, rfl⟩ := q
    show (if d.ok n = true then _ else _) = _
    rw [if_pos k]
  | _ => exact q.elim
/-! ### loops -/
/-- what a turn's end has to give -/
def nextP (cl : List Nat) (I : Sl → Hs → Prop) (P : Po) : Po := { n := fun s h => I (clear s cl) h, c := fun s h => I (clear s cl) h, b := fun s h => P.n (clear s cl) h, r := P.r, e := P.e }
theorem loopO_sat {o : Out} {cl} {k} {P : Po} (q : o.sat (nextP cl (fun s h => (k s h).sat P) P)) : (loopO o cl k).sat P := by
  replace q := q.out
  cases o with
  | next s h => exact q
  | cont s h => exact q
  | _ => exact ⟨q⟩
theorem forL_sat {body : D → Sl → Hs → Out} {cl : List Nat} {P : Po} (w : Wk) (I : Nat → Sl → Hs → Prop) (step : ∀ i s h, I i s h → (w.nxt i h = some none ∧ P.n s h) ∨ (∃ d, w.nxt i h = some (some d) ∧ i < w.most ∧ (body d s h).sat (nextP cl (I (i + 1)) P))) :
    ∀ (m i : Nat) (s : Sl) (h : Hs), i + m = w.most → I i s h → (forL w body cl m i s h).sat P
  | m, i, s, h, e, q => by
    rcases step i s h q with ⟨e1, q1⟩ | ⟨d, e1, e2, q1⟩
    · unfold forL
      rw [e1]
      exact ⟨q1⟩
    · unfold forL
      rw [e1]
      cases m with
      | zero => omega
      | succ m => exact loopO_sat (q1.imp (fun s h q => forL_sat w I step m (i + 1) _ _ (by omega) q) (fun _ _ q => q) (fun _ _ q => q) fun s h q => forL_sat w I step m (i + 1) _ _ (by omega) q)
/-- a for over what nobody changes -/
theorem for_sat {T : Type} {body : D → Sl → Hs → Out} {cl : List Nat} {P : Po} (enc : T → D) (I : List T → Sl → Hs → Prop) {xs : List D} {ts : List T} (hx : xs = ts.map enc) {s : Sl} {h : Hs} (h0 : I ts s h)
    (step : ∀ t r s h, t ∈ ts → I (t :: r) s h → (body (enc t) s h).sat (nextP cl (I r) P)) (fin : ∀ s h, I [] s h → P.n s h) : (forL (Wk.of xs) body cl (Wk.of xs).most 0 s h).sat P := by
  subst hx
  refine forL_sat (Wk.of (ts.map enc)) (fun i s h => i ≤ ts.length ∧ I (ts.drop i) s h) (fun i s h q => ?_) _ _ _ _ (by simp) ⟨by omega, by simpa using h0⟩
  by_cases hi : i < ts.length
  · refine .inr ⟨enc ts[i], ?_, by simpa [Wk.of] using hi, ?_⟩
    · show some (ts.map enc)[i]? = _
      simp [hi]
    · have := q.2
      rw [List.drop_eq_getElem_cons hi] at this
      exact (step _ _ _ _ (List.getElem_mem hi) this).imp (fun s h q => ⟨by omega, q⟩) (fun _ _ q => q) (fun _ _ q => q) fun s h q => ⟨by omega, q⟩
  · refine .inl ⟨?_, fin _ _ ?_⟩
    · show some (ts.map enc)[i]? = _
      simp; omega
    · have := q.2
      rwa [List.drop_eq_nil_of_le (by omega)] at this
/-- a for over range(k) -/
theorem for_rng {body : D → Sl → Hs → Out} {cl : List Nat} {P : Po} (f : Nat → D) (k : Nat) (I : Nat → Sl → Hs → Prop) {s : Sl} {h : Hs} (h0 : I 0 s h)
    (step : ∀ i s h, i < k → I i s h → (body (f i) s h).sat (nextP cl (I (i + 1)) P)) (fin : ∀ s h, I k s h → P.n s h) : (forL (Wk.of ((List.range k).map f)) body cl (Wk.of ((List.range k).map f)).most 0 s h).sat P := by
  refine forL_sat (Wk.of ((List.range k).map f)) (fun i s h => i ≤ k ∧ I i s h) (fun i s h q => ?_) _ _ _ _ (by simp) ⟨by omega, h0⟩
  by_cases hi : i < k
  · refine .inr ⟨f i, ?_, by simpa [Wk.of] using hi, ?_⟩
    · show some ((List.range k).map f)[i]? = _
      simp [hi]
    · exact (step _ _ _ hi q.2).imp (fun s h q => ⟨by omega, q⟩) (fun _ _ q => q) (fun _ _ q => q) fun s h q => ⟨by omega, q⟩
  · have e : i = k := by have := q.1; omega
    subst e
    refine .inl ⟨?_, fin _ _ q.2⟩
    show some ((List.range i).map f)[i]? = _
    simp
theorem while_sat {test : TT} {body : SS} {cl : List Nat} {P : Po} (I : Nat → Sl → Hs → Prop) (step : ∀ n s h, I n s h → ∃ b h1, test s h = .ok b h1 ∧ (b = false → P.n s h1) ∧ (b = true → ∃ k, n = k + 1 ∧ (body s h1).sat (nextP cl (I k) P))) :
    ∀ (n m : Nat) (s : Sl) (h : Hs), n < m → I n s h → (whileL test body cl m s h).sat P
  | n, 0, s, h, e, q => by omega
  | n, m + 1, s, h, e, q => by
    obtain ⟨b, h1, e1, q1, q2⟩ := step n s h q
    unfold whileL
    rw [e1]
    cases b with
    | false => exact ⟨q1 rfl⟩
    | true =>
      obtain ⟨k, rfl, q3⟩ := q2 rfl
      exact loopO_sat (q3.imp (fun s h q => while_sat I step k m _ _ (by omega) q) (fun _ _ q => q) (fun _ _ q => q) fun s h q => while_sat I step k m _ _ (by omega) q)
/-- a comprehension over what nobody changes -/
theorem comp_eq {T : Type} {turn : D → Hs → Res (Option D)} (enc : T → D) (I : List T → List D → Hs → Prop) {R : List D → Hs → Prop} {ts0 : List T} (step : ∀ t r acc h, t ∈ ts0 → I (t :: r) acc h → ∃ o h', turn (enc t) h = .ok o h' ∧ (∀ y, o = some y → acc.length < sizeLine) ∧ I r (acc ++ o.toList) h') (fin : ∀ acc h, I [] acc h → R acc h) :
    ∀ {xs : List D}, xs = ts0.map enc → ∀ {h : Hs}, I ts0 [] h → ∃ ys h', compL (Wk.of xs) turn (Wk.of xs).most 0 [] h = .ok ys h' ∧ R ys h' := by
  intro xs hx h h0
  subst hx
  have key : ∀ (m i : Nat) (acc : List D) (h : Hs), i + m = ts0.length → I (ts0.drop i) acc h → ∃ ys h', compL (Wk.of (ts0.map enc)) turn m i acc h = .ok ys h' ∧ R ys h' := by
    intro m
    induction m with
    | zero =>
      intro i acc h e q
      refine ⟨acc, h, ?_, fin _ _ ?_⟩
      · unfold compL
        have : (Wk.of (ts0.map enc)).nxt i h = some none := by show some (ts0.map enc)[i]? = _; simp; omega
        rw [this]
      · rwa [List.drop_eq_nil_of_le (by omega)] at q
    | succ m ih =>
      intro i acc h e q
      have hi : i < ts0.length := by omega
      rw [List.drop_eq_getElem_cons hi] at q
      obtain ⟨o, h', e1, e2, q1⟩ := step _ _ _ _ (List.getElem_mem hi) q
      have : (Wk.of (ts0.map enc)).nxt i h = some (some (enc ts0[i])) := by show some (ts0.map enc)[i]? = _; simp [hi]
      unfold compL
      rw [this]
      simp only [e1, Res.bind_ok]
      cases o with
      | none => exact ih (i + 1) acc h' (by omega) (by simpa using q1)
      | some y =>
        simp only
        rw [if_pos (e2 y rfl)]
        exact ih (i + 1) _ h' (by omega) (by simpa using q1)
  exact key _ 0 [] h (by simp [Wk.of]) (by simpa using h0)
end Bk

/-! BkEq: == and in over plain data. -/
namespace Bk
open PySem PySem.Spec PyProof.Rows L2
mutual
/-- plain data without bools, of depth at most n -/
def D.pu : Nat → D → Bool
  | _, .non => true
  | _, .int _ => true
  | _, .str x => PyData.strOk x
  | n + 1, .tup xs => D.pus n xs
  | n + 1, .lst xs => D.pus n xs
  | _, _ => false
def D.pus : Nat → List D → Bool
  | _, [] => true
  | n, x :: xs => D.pu n x && D.pus n xs
end
mutual
theorem D.pu_py : ∀ (n : Nat) (d : D), d.pu n = true → ∃ p, d.py = some p ∧ p.canLay0 = true ∧ p.depth ≤ n
  | _, .non, _ => ⟨.none, rfl, rfl, by simp [PyData.depth]⟩
  | _, .int i, _ => ⟨.int i, rfl, rfl, by simp [PyData.depth]⟩
  | _, .str x, h => ⟨.str x, rfl, by simpa [PyData.canLay0, D.pu] using h, by simp [PyData.depth]⟩
  | n + 1, .tup xs, h => by
    obtain ⟨ps, e1, e2, e3⟩ := D.pus_py n xs (by simpa [D.pu] using h)
    exact ⟨.tuple ps, by simp [D.py, e1], by simpa [PyData.canLay0] using e2, by simp only [PyData.depth]; omega⟩
  | n + 1, .lst xs, h => by
    obtain ⟨ps, e1, e2, e3⟩ := D.pus_py n xs (by simpa [D.pu] using h)
    exact ⟨.list ps, by simp [D.py, e1], by simpa [PyData.canLay0] using e2, by simp only [PyData.depth]; omega⟩
  | 0, .tup _, h => by cases h
  | 0, .lst _, h => by cases h
  | n, .bl _, h => by cases n <;> cases h
  | n, .ty _, h => by cases n <;> cases h
  | n, .scr _, h => by cases n <;> cases h
  | n, .loc _ _, h => by cases n <;> cases h
theorem D.pus_py : ∀ (n : Nat) (ds : List D), D.pus n ds = true → ∃ ps, D.pys ds = some ps ∧ PyData.canLayAll0 ps = true ∧ PyData.depthAll ps ≤ n
  | _, [], _ => ⟨[], rfl, rfl, by simp [PyData.depthAll]⟩
  | n, x :: xs, h => by
    rw [D.pus, Bool.and_eq_true] at h
    obtain ⟨p, e1, e2, e3⟩ := D.pu_py n x h.1
    obtain ⟨ps, f1, f2, f3⟩ := D.pus_py n xs h.2
    exact ⟨p :: ps, by simp [D.pys, e1, f1], by simp [PyData.canLayAll0, e2, f2], by simp only [PyData.depthAll]; omega⟩
end
theorem D.pys_len : ∀ {ds : List D} {ps : List PyData}, D.pys ds = some ps → ps.length = ds.length
  | [], ps, h => by cases h; rfl
  | x :: xs, ps, h => by
    rw [D.pys] at h
    cases e : D.py x with
    | none => rw [e] at h; cases h
    | some p =>
      cases e2 : D.pys xs with
      | none => rw [e, e2] at h; cases h
      | some qs =>
        rw [e, e2] at h
        cases h
        simp [D.pys_len e2]
mutual
theorem eqv_iff : ∀ (n : Nat) (x y : D) (p q : PyData), x.pu n = true → y.pu n = true → x.py = some p → y.py = some q → (PyData.eqv p q = true ↔ x = y) := by
  intro n x y p q hx hy e1 e2
  cases x with
  | non =>
    cases e1
    cases y with
    | non => cases e2; simp [PyData.eqv]
    | int j => cases e2; simp [PyData.eqv]
    | str z => cases e2; simp [PyData.eqv]
    | tup ys => rw [D.py, Option.map_eq_some_iff] at e2; obtain ⟨qs, f, rfl⟩ := e2; simp [PyData.eqv]
    | lst ys => rw [D.py, Option.map_eq_some_iff] at e2; obtain ⟨qs, f, rfl⟩ := e2; simp [PyData.eqv]
    | _ => cases n <;> cases hy
  | int i =>
    cases e1
    cases y with
    | non => cases e2; simp [PyData.eqv]
    | int j => cases e2; simp [PyData.eqv]
    | str z => cases e2; simp [PyData.eqv]
    | tup ys => rw [D.py, Option.map_eq_some_iff] at e2; obtain ⟨qs, f, rfl⟩ := e2; simp [PyData.eqv]
    | lst ys => rw [D.py, Option.map_eq_some_iff] at e2; obtain ⟨qs, f, rfl⟩ := e2; simp [PyData.eqv]
    | _ => cases n <;> cases hy
  | str z' =>
    cases e1
    cases y with
    | non => cases e2; simp [PyData.eqv]
    | int j => cases e2; simp [PyData.eqv]
    | str z => cases e2; simp [PyData.eqv]
    | tup ys => rw [D.py, Option.map_eq_some_iff] at e2; obtain ⟨qs, f, rfl⟩ := e2; simp [PyData.eqv]
    | lst ys => rw [D.py, Option.map_eq_some_iff] at e2; obtain ⟨qs, f, rfl⟩ := e2; simp [PyData.eqv]
    | _ => cases n <;> cases hy
  | tup xs =>
    rw [D.py, Option.map_eq_some_iff] at e1
    obtain ⟨ps, f1, rfl⟩ := e1
    cases n with
    | zero => cases hx
    | succ n =>
      cases y with
      | non => cases e2; simp [PyData.eqv]
      | int j => cases e2; simp [PyData.eqv]
      | str z => cases e2; simp [PyData.eqv]
      | tup ys =>
        rw [D.py, Option.map_eq_some_iff] at e2
        obtain ⟨qs, f2, rfl⟩ := e2
        rw [PyData.eqv, eqvs_iff n xs ys ps qs hx hy f1 f2, D.tup.injEq]
      | lst ys => rw [D.py, Option.map_eq_some_iff] at e2; obtain ⟨qs, f, rfl⟩ := e2; simp [PyData.eqv]
      | _ => cases hy
  | lst xs =>
    rw [D.py, Option.map_eq_some_iff] at e1
    obtain ⟨ps, f1, rfl⟩ := e1
    cases n with
    | zero => cases hx
    | succ n =>
      cases y with
      | non => cases e2; simp [PyData.eqv]
      | int j => cases e2; simp [PyData.eqv]
      | str z => cases e2; simp [PyData.eqv]
      | lst ys =>
        rw [D.py, Option.map_eq_some_iff] at e2
        obtain ⟨qs, f2, rfl⟩ := e2
        rw [PyData.eqv, eqvs_iff n xs ys ps qs hx hy f1 f2, D.lst.injEq]
      | tup ys => rw [D.py, Option.map_eq_some_iff] at e2; obtain ⟨qs, f, rfl⟩ := e2; simp [PyData.eqv]
      | _ => cases hy
  | _ => cases n <;> cases hx
  termination_by n => (n, 0)
theorem eqvs_iff : ∀ (n : Nat) (xs ys : List D) (ps qs : List PyData), D.pus n xs = true → D.pus n ys = true → D.pys xs = some ps → D.pys ys = some qs → (PyData.eqvAll ps qs = true ↔ xs = ys)
  | n, [], [], ps, qs, _, _, e1, e2 => by cases e1; cases e2; simp [PyData.eqvAll]
  | n, [], y :: ys, ps, qs, _, _, e1, e2 => by
    have := D.pys_len e2
    cases e1
    cases qs with
    | nil => simp at this
    | cons => simp [PyData.eqvAll]
  | n, x :: xs, [], ps, qs, _, _, e1, e2 => by
    have := D.pys_len e1
    cases e2
    cases ps with
    | nil => simp at this
    | cons => simp [PyData.eqvAll]
  | n, x :: xs, y :: ys, ps, qs, h1, h2, e1, e2 => by
    rw [D.pus, Bool.and_eq_true] at h1 h2
    rw [D.pys] at e1 e2
    obtain ⟨p, g1, e1⟩ := Option.bind_eq_some_iff.mp e1
    obtain ⟨ps', g2, rfl⟩ := Option.map_eq_some_iff.mp e1
    obtain ⟨q, k1, e2⟩ := Option.bind_eq_some_iff.mp e2
    obtain ⟨qs', k2, rfl⟩ := Option.map_eq_some_iff.mp e2
    rw [PyData.eqvAll, Bool.and_eq_true, eqv_iff n x y p q h1.1 h2.1 g1 k1, eqvs_iff n xs ys ps' qs' h1.2 h2.2 g2 k2, List.cons.injEq]
  termination_by n xs => (n, xs.length + 1)
end
open Classical in
/-- == of plain data -/
theorem eqD_pu {x y : D} {h : Hs} (hx : (x.now h).pu 60 = true) (hy : (y.now h).pu 60 = true) : eqD x y h = some (decide (x.now h = y.now h)) := by
  obtain ⟨p, e1, e2, e3⟩ := D.pu_py 60 _ hx
  obtain ⟨q, f1, f2, f3⟩ := D.pu_py 60 _ hy
  unfold eqD
  rw [e1, f1]
  have s1 : SeqAt.shaped p = true := by unfold SeqAt.shaped; rw [e2]; simp; omega
  have s2 : SeqAt.shaped q = true := by unfold SeqAt.shaped; rw [f2]; simp; omega
  simp only [s1, s2, and_self, if_true]
  congr 1
  rw [Bool.eq_iff_iff, decide_eq_true_iff]
  exact eqv_iff 60 _ _ p q hx hy e1 f1
theorem any_eqv : ∀ {ds : List D} {qs : List PyData} {x : D} {p : PyData}, D.pus 60 ds = true → x.pu 60 = true → D.pys ds = some qs → x.py = some p → ((qs.any fun z => PyData.eqv z p) = true ↔ x ∈ ds)
  | [], qs, x, p, _, _, e, _ => by cases e; simp
  | d :: ds, qs, x, p, h1, h2, e, e2 => by
    rw [D.pus, Bool.and_eq_true] at h1
    rw [D.pys] at e
    obtain ⟨q, g1, e1⟩ := Option.bind_eq_some_iff.mp e
    obtain ⟨qs', g2, rfl⟩ := Option.map_eq_some_iff.mp e1
    rw [List.any_cons, Bool.or_eq_true, eqv_iff 60 d x q p h1.1 h2 g1 e2, any_eqv h1.2 h2 g2 e2, List.mem_cons]
    constructor
    · rintro (h | h)
      · exact .inl h.symm
      · exact .inr h
    · rintro (h | h)
      · exact .inl h.symm
      · exact .inr h
theorem pus_weak : ∀ {ds : List D}, D.pus 59 ds = true → D.pus 60 ds = true := by
  have key : ∀ n, (∀ d : D, d.pu n = true → d.pu (n + 1) = true) := by
    intro n
    induction n with
    | zero => intro d h; cases d <;> first | rfl | exact h | cases h
    | succ n ih =>
      have ihs : ∀ ds, D.pus n ds = true → D.pus (n + 1) ds = true := by
        intro ds
        induction ds with
        | nil => intro _; rfl
        | cons d ds ih2 => intro h; rw [D.pus, Bool.and_eq_true] at h ⊢; exact ⟨ih _ h.1, ih2 h.2⟩
      intro d h
      cases d with
      | tup xs => exact ihs xs h
      | lst xs => exact ihs xs h
      | _ => first | rfl | exact h | cases h
  intro ds h
  induction ds with
  | nil => rfl
  | cons d ds ih => rw [D.pus, Bool.and_eq_true] at h ⊢; exact ⟨key _ _ h.1, ih h.2⟩
open Classical in
theorem inD_tup {x : D} {ys : List D} {h : Hs} (hn : x.now h = x) (hx : x.pu 60 = true) (hy : D.pus 59 ys = true) (hs : ∀ z, x ≠ .str z) : inD x (.tup ys) h = some (decide (x ∈ ys)) := by
  obtain ⟨p, e1, e2, e3⟩ := D.pu_py 60 _ hx
  obtain ⟨qs, f1, f2, f3⟩ := D.pus_py 59 _ hy
  have s1 : SeqAt.shaped p = true := by unfold SeqAt.shaped; rw [e2]; simp; omega
  have s2 : SeqAt.shaped (.tuple qs) = true := by unfold SeqAt.shaped; simp only [PyData.canLay0, PyData.depth, f2]; simp; omega
  have e : inD x (.tup ys) h = match (x.now h).py, D.pys ys with
    | some p, some qs => if SeqAt.shaped p = true ∧ SeqAt.shaped (.tuple qs) = true then some (qs.any fun z => PyData.eqv z p) else none
    | _, _ => none := by
    cases x <;> first | rfl | exact absurd rfl (hs _)
  rw [e, hn, e1, f1]
  simp only [s1, s2, and_self, if_true]
  congr 1
  rw [Bool.eq_iff_iff, decide_eq_true_iff]
  exact any_eqv (pus_weak hy) hx f1 e1
open Classical in
theorem inD_own {x y : D} {ys : List D} {h : Hs} (ho : y.own h = some ys) (hn : x.now h = x) (hx : x.pu 60 = true) (hy : D.pus 59 ys = true) : inD x y h = some (decide (x ∈ ys)) := by
  obtain ⟨p, e1, e2, e3⟩ := D.pu_py 60 _ hx
  obtain ⟨qs, f1, f2, f3⟩ := D.pus_py 59 _ hy
  have s1 : SeqAt.shaped p = true := by unfold SeqAt.shaped; rw [e2]; simp; omega
  have s2 : SeqAt.shaped (.list qs) = true := by unfold SeqAt.shaped; simp only [PyData.canLay0, PyData.depth, f2]; simp; omega
  have e : inD x y h = match (x.now h).py, (y.own h).bind D.pys with
    | some p, some qs => if SeqAt.shaped p = true ∧ SeqAt.shaped (.list qs) = true then some (qs.any fun z => PyData.eqv z p) else none
    | _, _ => dinD x y h := by
    cases y with
    | lst => cases x <;> rfl
    | loc => cases x <;> rfl
    | _ => cases ho
  rw [e, hn, e1, ho]
  show (match some p, D.pys ys with
    | some p, some qs => if SeqAt.shaped p = true ∧ SeqAt.shaped (.list qs) = true then some (qs.any fun z => PyData.eqv z p) else none
    | _, _ => dinD x y h) = _
  rw [f1]
  simp only [s1, s2, and_self, if_true]
  congr 1
  rw [Bool.eq_iff_iff, decide_eq_true_iff]
  exact any_eqv (pus_weak hy) hx f1 e1
theorem pus_map {T : Type} (n : Nat) (f : T → D) (hf : ∀ t, (f t).pu n = true) : ∀ ts : List T, D.pus n (ts.map f) = true
  | [] => rfl
  | t :: ts => by rw [List.map_cons, D.pus, hf t, pus_map n f hf ts]; rfl
theorem oks_map {T : Type} (n : Nat) (f : T → D) (hf : ∀ t, (f t).ok n = true) : ∀ ts : List T, D.oks n (ts.map f) = true
  | [] => rfl
  | t :: ts => by rw [List.map_cons, D.oks, hf t, oks_map n f hf ts]; rfl
section
variable {h : Hs}
@[simp] theorem now_int (i) : (D.int i).now h = .int i := id rfl
@[simp] theorem now_tup (i) : (D.tup i).now h = .tup i := id rfl
@[simp] theorem now_lst (i) : (D.lst i).now h = .lst i := id rfl
@[simp] theorem now_str (i) : (D.str i).now h = .str i := id rfl
@[simp] theorem now_non : D.non.now h = .non := id rfl
theorem cmp_eq_of {x y} {b : Bool} (e : eqD x y h = some b) : cmpR .Eq x y h = .ok (.bl b) h := cmpR_of e
theorem cmp_ne_of {x y} {b : Bool} (e : eqD x y h = some b) : cmpR .NotEq x y h = .ok (.bl !b) h := cmpR_of (by show (eqD x y h).map _ = _; rw [e]; rfl)
theorem cmp_in_of {x y} {b : Bool} (e : inD x y h = some b) : cmpR .In x y h = .ok (.bl b) h := cmpR_of e
theorem cmp_ni_of {x y} {b : Bool} (e : inD x y h = some b) : cmpR .NotIn x y h = .ok (.bl !b) h := cmpR_of (by show (inD x y h).map _ = _; rw [e]; rfl)
open Classical in
theorem eqD_int (i j : Int) : eqD (.int i) (.int j) h = some (decide (i = j)) := by
  rw [eqD_pu rfl rfl]
  congr 1
  rw [Bool.eq_iff_iff, decide_eq_true_iff, decide_eq_true_iff]
  simp
@[simp] theorem cmp_eq_int (i j : Int) : cmpR .Eq (.int i) (.int j) h = .ok (.bl (decide (i = j))) h := cmp_eq_of (eqD_int i j)
@[simp] theorem cmp_ne_int (i j : Int) : cmpR .NotEq (.int i) (.int j) h = .ok (.bl !(decide (i = j))) h := cmp_ne_of (eqD_int i j)
theorem eqD_bl (i j : Bool) : eqD (.bl i) (.bl j) h = some (i == j) := by cases i <;> cases j <;> rfl
@[simp] theorem cmp_eq_bl (i j : Bool) : cmpR .Eq (.bl i) (.bl j) h = .ok (.bl (i == j)) h := cmp_eq_of (eqD_bl i j)
@[simp] theorem cmp_ne_bl (i j : Bool) : cmpR .NotEq (.bl i) (.bl j) h = .ok (.bl !(i == j)) h := cmp_ne_of (eqD_bl i j)
open Classical in
theorem eqD_two (a b c d : Int) : eqD (.tup [.int a, .int b]) (.tup [.int c, .int d]) h = some (decide (a = c ∧ b = d)) := by
  rw [eqD_pu rfl rfl]
  congr 1
  rw [Bool.eq_iff_iff, decide_eq_true_iff, decide_eq_true_iff]
  simp
@[simp] theorem cmp_eq_two (a b c d : Int) : cmpR .Eq (.tup [.int a, .int b]) (.tup [.int c, .int d]) h = .ok (.bl (decide (a = c ∧ b = d))) h := cmp_eq_of (eqD_two a b c d)
@[simp] theorem cmp_ne_two (a b c d : Int) : cmpR .NotEq (.tup [.int a, .int b]) (.tup [.int c, .int d]) h = .ok (.bl !(decide (a = c ∧ b = d))) h := cmp_ne_of (eqD_two a b c d)
end
end Bk

/-! BkDraw: the laws' draws. -/
namespace Bk
open PySem PySem.Spec PyProof.Rows L2
abbrev Dr := List Int × Int
theorem pt_self {β : Type} : ∀ {h : List (List β)} {l k : Nat} {o : β}, gt h l k = some o → pt h l k o = h
  | [], _, _, _, e => rfl
  | top :: rest, l, k, o, e => by
    rw [gt_cons] at e
    unfold pt
    split
    · rename_i hl
      rw [if_pos hl] at e
      congr 1
      refine List.ext_getElem? fun i => ?_
      rw [List.getElem?_set]
      split
      · rename_i hi
        subst hi
        split
        · exact e.symm
        · rename_i hk
          rw [List.getElem?_eq_none (by omega)] at e
          cases e
      · rfl
    · rename_i hl
      rw [if_neg hl] at e
      rw [pt_self e]
theorem pt_eq {β : Type} (top : List β) (rest : List (List β)) (l k : Nat) (o : β) : pt (top :: rest) l k o = if l = rest.length then top.set k o :: rest else top :: pt rest l k o := rfl
theorem pt_pt {β : Type} : ∀ {h : List (List β)} {l k : Nat} {o o' : β}, pt (pt h l k o) l k o' = pt h l k o'
  | [], _, _, _, _ => rfl
  | top :: rest, l, k, o, o' => by
    rw [pt_eq, pt_eq]
    split
    · rename_i hl
      rw [pt_eq, if_pos hl, List.set_set]
    · rename_i hl
      rw [pt_eq, pt_len, if_neg hl, pt_pt]
theorem pt_comm {β : Type} : ∀ {h : List (List β)} {l k k' : Nat} {o o' : β}, k ≠ k' → pt (pt h l k o) l k' o' = pt (pt h l k' o') l k o
  | [], _, _, _, _, _, _ => rfl
  | top :: rest, l, k, k', o, o', hk => by
    rw [pt_eq, pt_eq]
    split
    · rename_i hl
      rw [pt_eq, pt_eq, if_pos hl, if_pos hl, List.set_comm _ _ hk]
    · rename_i hl
      rw [pt_eq, pt_eq, pt_len, pt_len, if_neg hl, if_neg hl, pt_comm hk]
theorem pt_cons {β : Type} {top : List β} {rest : List (List β)} {l k : Nat} {o : β} (h : l < rest.length) : pt (top :: rest) l k o = top :: pt rest l k o := by
  show (if l = rest.length then _ else _) = _
  rw [if_neg (by omega)]
def stA (st : Dr) : Ob := .lst (st.1.map .int)
def stB (st : Dr) : Ob := .lst [.loc 0 0, .int st.2]
/-- the script's state lies in the heap -/
structure HasSt (h : Hs) (st : Dr) : Prop where
  a : gt h 0 0 = some (stA st)
  b : gt h 0 1 = some (stB st)
  l : st.1.length ≤ 1000
def putSt (h : Hs) (st : Dr) : Hs := pt (pt h 0 0 (stA st)) 0 1 (stB st)
theorem HasSt.len {h : Hs} {st : Dr} (q : HasSt h st) : 0 < h.length := gt_lt q.a
theorem HasSt.self {h : Hs} {st : Dr} (q : HasSt h st) : putSt h st = h := by
  unfold putSt
  rw [pt_self q.a, pt_self q.b]
theorem HasSt.put {h : Hs} {st st' : Dr} (q : HasSt h st) (hl : st'.1.length ≤ 1000) : HasSt (putSt h st') st' := by
  have e : gt (pt h 0 0 (stA st')) 0 1 = some (stB st) := by rw [gt_pt q.a, if_neg (by simp)]; exact q.b
  refine ⟨?_, ?_, hl⟩
  · unfold putSt
    rw [gt_pt e, if_neg (by simp), gt_pt q.a, if_pos (by simp)]
  · unfold putSt
    rw [gt_pt e, if_pos (by simp)]
theorem putSt_put {h : Hs} {a b : Dr} : putSt (putSt h a) b = putSt h b := by
  unfold putSt
  rw [pt_comm (k := 1) (k' := 0) (by decide), pt_pt, pt_pt]
theorem HasSt.cons {h : Hs} {st : Dr} {t : List Ob} (q : HasSt h st) : HasSt (t :: h) st := by
  have := q.len
  exact ⟨by rw [gt_of_lt this]; exact q.a, by rw [gt_of_lt this]; exact q.b, q.l⟩
theorem putSt_cons {h : Hs} {st : Dr} {t : List Ob} (hl : 0 < h.length) : putSt (t :: h) st = t :: putSt h st := by
  unfold putSt
  rw [pt_cons hl, pt_cons (by rw [pt_len]; exact hl)]
theorem HasSt.putA {h : Hs} {st : Dr} (q : HasSt h st) (cs : List Int) : pt h 0 0 (.lst (cs.map .int)) = putSt h (cs, st.2) := by
  unfold putSt
  rw [pt_comm (by decide)]
  show _ = pt (pt h 0 1 (stB st)) 0 0 _
  rw [pt_self q.b]; rfl
theorem HasSt.putB {h : Hs} {st : Dr} (q : HasSt h st) (i : Int) : pt h 0 1 (.lst [.loc 0 0, .int i]) = putSt h (st.1, i) := by
  unfold putSt
  show _ = pt (pt h 0 0 (stA st)) 0 1 _
  rw [pt_self q.a]; rfl
@[simp] theorem putSt_len {h : Hs} {st : Dr} : (putSt h st).length = h.length := by unfold putSt; rw [pt_len, pt_len]
def dz : List Int → List Int
  | [] => []
  | c :: r => if c = 0 then dz r else c :: r
/-- one drawn number, and the state behind it -/
def draw (m : Int) (st : Dr) : Int × Dr := match dz st.1 with
  | c :: r => (c.fmod m, (c.fdiv m :: r, st.2))
  | [] => (((((st.2 * 48271 + 12345).fmod 2147483647).fdiv 64)).fmod m, ([], (st.2 * 48271 + 12345).fmod 2147483647))
theorem dz_len : ∀ l : List Int, (dz l).length ≤ l.length
  | [] => Nat.le_refl _
  | c :: r => by
    unfold dz
    split
    · exact Nat.le_succ_of_le (dz_len r)
    · exact Nat.le_refl _
theorem draw_len (m : Int) (st : Dr) : (draw m st).2.1.length ≤ st.1.length := by
  have := dz_len st.1
  unfold draw
  split
  · rename_i c r e
    rw [e] at this
    exact this
  · simp
theorem draw_lo {m : Int} (hm : 0 < m) (st : Dr) : 0 ≤ (draw m st).1 := by
  unfold draw
  split <;> exact Int.fmod_nonneg_of_pos _ hm
theorem draw_hi {m : Int} (hm : 0 < m) (st : Dr) : (draw m st).1 < m := by
  unfold draw
  split <;> exact Int.fmod_lt_of_pos _ hm
def drawB_b0 (call : Str → List D → Hs → Res D) : List SS := [(sDrop (eMth .pop (rd 2) [(eC (.int 0))]))]
def drawB (call : Str → List D → Hs → Res D) : List SS := [(sSet 2 (eIx (rd 0) (eC (.int 0)))), (sWhile [] (tBool .And [(tCmp (eBlt false .len [(rd 2)]) [(.Gt, (eC (.int 0)))]), (tCmp (eIx (rd 2) (eC (.int 0))) [(.Eq, (eC (.int 0)))])]) (drawB_b0 call)), (sIf (tCmp (eBlt false .len [(rd 2)]) [(.Gt, (eC (.int 0)))]) [(sSet 3 (eIx (rd 2) (eC (.int 0)))), (sAsg (eBin false .FloorDiv (rd 3) (rd 1)) (gIx (rd 2) (eC (.int 0)))), (sRet (eBin false .Mod (eBlt false .int [(rd 3)]) (rd 1)))] []), (sSet 4 (eBin false .Mod (eBlt false .int [(eBin false .Add (eBin false .Mult (eIx (rd 0) (eC (.int 1))) (eC (.int 48271))) (eC (.int 12345)))]) (eC (.int 2147483647)))), (sAsg (rd 4) (gIx (rd 0) (eC (.int 1)))), (sRet (eBin false .Mod (eBlt false .int [(eBin false .FloorDiv (rd 4) (eC (.int 64)))]) (rd 1)))]
section
variable {h : Hs}
theorem len_loc {l k xs} (e : gt h l k = some (.lst xs)) (b) : bltD b .len [.loc l k] h = .ok (.int xs.length) h := by
  show (match cur h l k with | some ys => Res.ok (D.int ys.length) h | none => .bad) = _
  rw [cur_of e]
@[simp] theorem len_lst (xs) (b) : bltD b .len [.lst xs] h = .ok (.int xs.length) h := id rfl
@[simp] theorem len_tup (xs) (b) : bltD b .len [.tup xs] h = .ok (.int xs.length) h := id rfl
@[simp] theorem int_int (i) (b) : bltD b .int [.int i] h = .ok (.int i) h := id rfl
theorem own_loc {l k xs} (e : gt h l k = some (.lst xs)) : (D.loc l k).own h = some xs := cur_of e
theorem oks_int (n : Nat) (ns : List Int) : D.oks n (ns.map .int) = true := oks_map n _ (fun _ => rfl) ns
theorem pop0_loc {l k x xs} (e : gt h l k = some (.lst (x :: xs))) (ho : D.oks (l + 1) xs = true) : mthD .pop (.loc l k) [.int 0] h = .ok x (pt h l k (.lst xs)) := by
  unfold mthD
  simp only [cur_of e]
  rw [if_pos (by decide)]
  have : seqIndex? 0 (x :: xs).length = some 0 := by simp [seqIndex?]
  rw [this]
  simp only [List.getElem?_cons_zero, List.eraseIdx_zero, List.tail_cons, wr, Ob.ok]
  rw [if_pos ho]
theorem setD_loc {l k xs} (e : gt h l k = some (.lst xs)) {i : Int} {j : Nat} (hj : ixN xs.length i = some j) {v : D} (ho : D.oks (l + 1) (xs.set j v) = true) : setD (.loc l k) (.int i) v h = .ok .non (pt h l k (.lst (xs.set j v))) := by
  unfold setD
  simp only [cur_of e, hj, wr, Ob.ok]
  exact if_pos ho
end
theorem HasSt.nxt {h : Hs} {st : Dr} (q : HasSt h st) (m : Int) : HasSt (putSt h (draw m st).2) (draw m st).2 := q.put (Nat.le_trans (draw_len m st) q.l)
theorem draw_run {call : Str → List D → Hs → Res D} {h : Hs} {st : Dr} {m : Int} (q : HasSt h st) (hm : 0 < m) (hm2 : m < 1073741824) :
    finO false h.length (blk (drawB call) [some (.loc 0 1), some (.int m), none, none, none] ([] :: h)) = .ok (.int (draw m st).1) (putSt h (draw m st).2) := by
  have hl := q.len
  have q0 : HasSt ([] :: h) st := q.cons
  have m0 : m ≠ 0 := by omega
  have m1 : m.natAbs < 1073741824 := by omega
  refine fin_eq ?_
  unfold drawB
  simp only [blk_cons, sSet_ap, eIx_ap, rd_zero, rd_succ, eC_ap, Res.bind_ok, ix_loc q0.b, atI_zero, Res.out_ok, Out.seq_next, List.set_cons_succ, List.set_cons_zero, sWhile_ap]
  refine sat_seq (while_sat (fun n s h' => ∃ cs : List Int, s = [some (.loc 0 1), some (.int m), some (.loc 0 0), none, none] ∧ h' = [] :: putSt h (cs, st.2) ∧ n = cs.length ∧ cs.length ≤ 1000 ∧ dz cs = dz st.1) ?_ st.1.length _ _ _ ?_ ⟨st.1, rfl, by rw [show ((st.1, st.2) : Dr) = st from rfl, q.self], rfl, q.l, rfl⟩)
  · rintro n s h' ⟨cs, rfl, rfl, rfl, hcl, hcs⟩
    have q1 : HasSt ([] :: putSt h (cs, st.2)) (cs, st.2) := (q.put (st' := (cs, st.2)) hcl).cons
    have ea : gt ([] :: putSt h (cs, st.2)) 0 0 = some (.lst (cs.map .int)) := q1.a
    have eb : gt ([] :: putSt h (cs, st.2)) 0 1 = some (.lst [.loc 0 0, .int st.2]) := q1.b
    cases cs with
    | nil =>
      have hd : draw m st = (((((st.2 * 48271 + 12345).fmod 2147483647).fdiv 64)).fmod m, ([], (st.2 * 48271 + 12345).fmod 2147483647)) := by
        unfold draw
        rw [← hcs]; rfl
      refine ⟨false, [] :: putSt h ([], st.2), ?_, fun _ => ?_, fun h => by cases h⟩
      · simp [len_loc ea]
      · have hw := setD_loc eb (i := 1) (j := 1) rfl (v := .int ((st.2 * 48271 + 12345).fmod 2147483647)) rfl
        have hp := q1.putB ((st.2 * 48271 + 12345).fmod 2147483647)
        simp [len_loc ea, ix_loc eb, hw, m0]
        rw [hp, putSt_cons (by simpa using hl), putSt_put, hd]
        simp [D.ok]
    | cons c r =>
      by_cases hc : c = 0
      · subst hc
        refine ⟨true, [] :: putSt h (0 :: r, st.2), ?_, (fun h => nomatch h), fun _ => ⟨r.length, rfl, ?_⟩⟩
        · simp [len_loc ea, ix_loc ea]
        · have hw := pop0_loc ea (oks_int _ _)
          have hp := q1.putA r
          simp [drawB_b0, own_loc ea, hw, nextP, clear]
          refine ⟨r, ?_, rfl, by simp at hcl; omega, ?_⟩
          · rw [hp, putSt_cons (by simpa using hl), putSt_put]
          · rw [← hcs]; simp [dz]
      · have hd : draw m st = (c.fmod m, (c.fdiv m :: r, st.2)) := by
          unfold draw
          rw [← hcs]; simp [dz, hc]
        refine ⟨false, [] :: putSt h (c :: r, st.2), ?_, fun _ => ?_, fun h => by cases h⟩
        · simp [len_loc ea, ix_loc ea, hc]
        · have hw := setD_loc ea (i := 0) (j := 0) (by simp [ixN]) (v := .int (c.fdiv m)) (oks_int _ (c.fdiv m :: r))
          have hp := q1.putA (c.fdiv m :: r)
          have hlen : (0 : Int) < (r.length : Int) + 1 := by omega
          simp [len_loc ea, ix_loc ea, hw, m0, m1, hlen]
          rw [show (Ob.lst (D.int (c.fdiv m) :: List.map D.int r)) = .lst ((c.fdiv m :: r).map D.int) from rfl, hp, putSt_cons (by simpa using hl), putSt_put, hd]
          simp [D.ok]
  · have := q.l
    unfold wmost
    omega
/-! ### draws without their state -/
def D.toI : D → Int
  | .int i => i
  | _ => 0
def getSt (h : Hs) : Dr := ((match gt h 0 0 with | some (.lst xs) => xs.map D.toI | _ => []), (match gt h 0 1 with | some (.lst [_, .int i]) => i | _ => 0))
theorem HasSt.get {h : Hs} {st : Dr} (q : HasSt h st) : getSt h = st := by
  unfold getSt
  rw [q.a, q.b]
  simp only [stA, stB, List.map_map]
  have : (D.toI ∘ D.int) = id := by funext i; rfl
  rw [this, List.map_id]
def Good (h : Hs) : Prop := HasSt h (getSt h)
theorem HasSt.good {h : Hs} {st : Dr} (q : HasSt h st) : Good h := by unfold Good; rw [q.get]; exact q
def dv (m : Int) (h : Hs) : Int := (draw m (getSt h)).1
def dn (m : Int) (h : Hs) : Hs := putSt h (draw m (getSt h)).2
theorem dv_lo {m : Int} (hm : 0 < m) (h : Hs) : 0 ≤ dv m h := draw_lo hm _
theorem dv_hi {m : Int} (hm : 0 < m) (h : Hs) : dv m h < m := draw_hi hm _
@[simp] theorem dn_len (m : Int) (h : Hs) : (dn m h).length = h.length := putSt_len
section
variable {h : Hs}
@[simp] theorem good_dn {m : Int} (q : Good h) : Good (dn m h) := (HasSt.nxt q m).good
@[simp] theorem good_cons {t : List Ob} (q : Good h) : Good (t :: h) := (HasSt.cons q).good
theorem Good.len (q : Good h) : 0 < h.length := HasSt.len q
@[simp] theorem getSt_cons {t : List Ob} (q : Good h) : getSt (t :: h) = getSt h := (HasSt.cons q).get
@[simp] theorem dv_cons {m : Int} {t : List Ob} (q : Good h) : dv m (t :: h) = dv m h := by unfold dv; rw [getSt_cons q]
@[simp] theorem dn_cons {m : Int} {t : List Ob} (q : Good h) : dn m (t :: h) = t :: dn m h := by unfold dn; rw [getSt_cons q, putSt_cons q.len]
end
/-- h' is h behind some draws -/
def Dn (h h' : Hs) : Prop := ∃ st : Dr, st.1.length ≤ 1000 ∧ h' = putSt h st
theorem Dn.refl {h : Hs} (q : Good h) : Dn h h := ⟨getSt h, q.l, q.self.symm⟩
theorem Dn.trans {a b c : Hs} (p : Dn a b) (q : Dn b c) : Dn a c := by
  obtain ⟨s, hs, rfl⟩ := p
  obtain ⟨t, ht, rfl⟩ := q
  exact ⟨t, ht, putSt_put⟩
theorem Dn.dn {a b : Hs} {m : Int} (p : Dn a b) (q : Good b) : Dn a (dn m b) := p.trans ⟨_, Nat.le_trans (draw_len m _) q.l, rfl⟩
theorem Dn.len {a b : Hs} (p : Dn a b) : b.length = a.length := by obtain ⟨s, _, rfl⟩ := p; exact putSt_len
theorem Dn.good {a b : Hs} (p : Dn a b) (q : Good a) : Good b := by obtain ⟨s, hs, rfl⟩ := p; exact (HasSt.put q hs).good
theorem Dn.cons {a b : Hs} {t : List Ob} (p : Dn a b) (q : Good a) : Dn (t :: a) (t :: b) := by
  obtain ⟨s, hs, rfl⟩ := p
  exact ⟨s, hs, (putSt_cons q.len).symm⟩
theorem draw_good {call : Str → List D → Hs → Res D} {h : Hs} {m : Int} (q : Good h) (hm : 0 < m) (hm2 : m < 1073741824) :
    finO false h.length (blk (drawB call) [some (.loc 0 1), some (.int m), none, none, none] ([] :: h)) = .ok (.int (dv m h)) (dn m h) := draw_run q hm hm2
/-! ### changeable lists -/
section
variable {h : Hs}
@[simp] theorem append_ap (l k y) : mthD .append (.loc l k) [y] h = match cur h l k with | some xs => if xs.length < sizeLine then wr l k (.lst (xs ++ [y])) h fun h' => .ok .non h' else .bad | none => .bad := by
  unfold mthD
  cases e : cur h l k <;> simp only [e]
@[simp] theorem own_ap (l k) : (D.loc l k).own h = cur h l k := id rfl
@[simp] theorem own_lst (xs) : (D.lst xs).own h = some xs := id rfl
@[simp] theorem cur_cons (t : List Ob) (l k) : cur (t :: h) l k = if l = h.length then (match t[k]? with | some (.lst xs) => some xs | _ => none) else cur h l k := by
  unfold cur
  rw [gt_cons]
  by_cases hl : l = h.length
  · rw [if_pos hl, if_pos hl] <;> rfl
  · rw [if_neg hl, if_neg hl]
@[simp] theorem freeze_loc (l k) : freeze (.loc l k) h = match cur h l k with | some xs => .ok (.lst xs) (pt h l k .dead) | none => .bad := id rfl
@[simp] theorem freeze_lst (xs) : freeze (.lst xs) h = .ok (.lst xs) h := id rfl
@[simp] theorem freeze_tup (xs) : freeze (.tup xs) h = .ok (.tup xs) h := id rfl
@[simp] theorem wr_ap (l k o f) : wr l k o h f = if o.ok (l + 1) then f (pt h l k o) else .bad := id rfl
@[simp] theorem wseq_tup (xs) : walkSeq (.tup xs) h = .ok (Wk.of xs) h := id rfl
@[simp] theorem wseq_lst (xs) : walkSeq (.lst xs) h = .ok (Wk.of xs) h := id rfl
@[simp] theorem wseq_scr (xs) : walkSeq (.scr xs) h = .ok (Wk.of (xs.map .int)) h := id rfl
theorem wrng (m n : Int) : walkRng (.int m) (.int n) h = if -(2 ^ 62) ≤ m ∧ m < 2 ^ 62 ∧ -(2 ^ 62) ≤ n ∧ n < 2 ^ 62 then .ok (Wk.of ((List.range (n - m).toNat).map fun i => .int (m + (i : Nat)))) h else .bad := rfl
@[simp] theorem tuple_lst (xs) (b) : bltD b .tuple [.lst xs] h = .ok (.tup xs) h := id rfl
@[simp] theorem tuple_tup (xs) (b) : bltD b .tuple [.tup xs] h = .ok (.tup xs) h := id rfl
@[simp] theorem tuple_loc (l k) (b) : bltD b .tuple [.loc l k] h = match cur h l k with | some ys => .ok (.tup ys) h | none => .bad := id rfl
@[simp] theorem len_loc' (l k) (b) : bltD b .len [.loc l k] h = match cur h l k with | some ys => .ok (.int ys.length) h | none => .bad := id rfl
@[simp] theorem list_lst (xs) (b) : bltD b .list [.lst xs] h = mkL b xs h := id rfl
@[simp] theorem list_tup (xs) (b) : bltD b .list [.tup xs] h = mkL b xs h := id rfl
@[simp] theorem list_loc (l k) (b) : bltD b .list [.loc l k] h = match cur h l k with | some ys => mkL b ys h | none => .bad := id rfl
@[simp] theorem max_two (i j) (b) : bltD b .max [.int i, .int j] h = .ok (.int (if j > i then j else i)) h := id rfl
@[simp] theorem min_two (i j) (b) : bltD b .min [.int i, .int j] h = .ok (.int (if j < i then j else i)) h := id rfl
@[simp] theorem abs_int (i) (b) : bltD b .abs [.int i] h = .ok (.int (if i < 0 then -i else i)) h := id rfl
end
@[simp] theorem sz0 : 0 ≤ sizeLine := by decide
@[simp] theorem sz1 : 1 ≤ sizeLine := by decide
@[simp] theorem sz2 : 2 ≤ sizeLine := by decide
@[simp] theorem sz3 : 3 ≤ sizeLine := by decide
@[simp] theorem sz4 : 4 ≤ sizeLine := by decide
@[simp] theorem sz5 : 5 ≤ sizeLine := by decide
@[simp] theorem sz6 : 6 ≤ sizeLine := by decide
@[simp] theorem sz7 : 7 ≤ sizeLine := by decide
@[simp] theorem sz8 : 8 ≤ sizeLine := by decide
@[simp] theorem sz9 : 9 ≤ sizeLine := by decide
@[simp] theorem sz10 : 10 ≤ sizeLine := by decide
@[simp] theorem sz11 : 11 ≤ sizeLine := by decide
@[simp] theorem sz12 : 12 ≤ sizeLine := by decide
@[simp] theorem sz13 : 13 ≤ sizeLine := by decide
@[simp] theorem sz14 : 14 ≤ sizeLine := by decide
@[simp] theorem sz15 : 15 ≤ sizeLine := by decide
@[simp] theorem sz16 : 16 ≤ sizeLine := by decide
theorem szle {n : Nat} (h : n ≤ 1000000) : n ≤ sizeLine := Nat.le_trans h (by decide)
theorem szlt {n : Nat} (h : n ≤ 1000000) : n < sizeLine := Nat.lt_of_le_of_lt h (by decide)
@[simp] theorem obok_lst (n xs) : (Ob.lst xs).ok n = D.oks n xs := id rfl
@[simp] theorem oks_nil (n) : D.oks n [] = true := id rfl
@[simp] theorem oks_cons (n x xs) : D.oks n (x :: xs) = (D.ok n x && D.oks n xs) := id rfl
@[simp] theorem oks_append (n) : ∀ xs ys, D.oks n (xs ++ ys) = (D.oks n xs && D.oks n ys)
  | [], ys => by simp
  | x :: xs, ys => by simp [oks_append n xs ys, Bool.and_assoc]
@[simp] theorem ok_int (n i) : (D.int i).ok n = true := id rfl
@[simp] theorem ok_bl (n i) : (D.bl i).ok n = true := id rfl
@[simp] theorem ok_non (n) : D.non.ok n = true := id rfl
@[simp] theorem ok_str (n i) : (D.str i).ok n = true := id rfl
@[simp] theorem ok_tup (n i) : (D.tup i).ok n = D.oks n i := id rfl
@[simp] theorem ok_lst (n i) : (D.lst i).ok n = D.oks n i := id rfl
@[simp] theorem ok_loc (n l k) : (D.loc l k).ok n = decide (l < n) := id rfl
@[simp] theorem oks_ints (n : Nat) (ns : List Int) : D.oks n (ns.map .int) = true := oks_map n _ (fun _ => rfl) ns
@[simp] theorem pt_ap (t : List Ob) (h : Hs) (l k o) : pt (t :: h) l k o = if l = h.length then t.set k o :: h else t :: pt h l k o := id rfl
/-! ### the script's state -/
def stateB_b0 (call : Str → List D → Hs → Res D) : List SS := [(sSet 1 (eBin false .Mod (eBlt false .int [(eBin false .Add (eBin false .Mult (rd 1) (eC (.int 31))) (rd 2))]) (eC (.int 1000003))))]
def stateB (call : Str → List D → Hs → Res D) : List SS := [(sSet 1 (eC (.int 7))), (sFor [] (wSeq (rd 0)) (gN (pV 2)) (stateB_b0 call)), (sRet (eList true [(eComp true [2] (wSeq (rd 0)) (pV 2) none (eBlt false .abs [(rd 2)])), (eBin false .Add (rd 1) (eC (.int 1)))]))]
theorem state_run {call : Str → List D → Hs → Res D} {ns : List Int} (hl : ns.length ≤ 63) :
    ∃ st : Dr, HasSt [[stA st, stB st]] st ∧ finO true 1 (blk (stateB call) [some (.scr ns), none, none] [[]]) = .ok (.loc 0 1) [[stA st, stB st]] := by
  have key : (blk (stateB call) [some (.scr ns), none, none] [[]]).sat { n := fun _ _ => False, r := fun d h => d = .loc 0 1 ∧ ∃ st : Dr, h = [[stA st, stB st]] ∧ st.1.length ≤ 63 } := by
    unfold stateB
    simp only [blk_cons, sSet_ap, eC_ap, Res.out_ok, Out.seq_next, List.set_cons_succ, List.set_cons_zero, sFor_ap, wSeq_ap, rd_zero, Res.bind_ok, wseq_scr]
    refine sat_seq (for_sat D.int (fun _ s h => ∃ i x, s = [some (.scr ns), some (.int i), x] ∧ h = [[]]) rfl ⟨7, none, rfl, rfl⟩ (fun t r s h _ => ?_) fun s h => ?_)
    · rintro ⟨i, x, rfl, rfl⟩
      simp [stateB_b0, nextP, clear]
    · rintro ⟨i, x, rfl, rfl⟩
      obtain ⟨ys, h', e, rfl, es⟩ := comp_eq (turn := cTurn (pV 2) none (eBlt false .abs [(rd 2)]) (clear [some (.scr ns), some (.int i), x] [2])) D.int (fun r acc h => h = [[]] ∧ ∃ zs : List Int, acc = zs.map .int ∧ zs.length + r.length = ns.length) (R := fun ys h => h = [[]] ∧ ∃ zs : List Int, ys = zs.map .int ∧ zs.length = ns.length) (ts0 := ns)
        (fun t r acc h _ => by
          rintro ⟨rfl, zs, rfl, e⟩
          refine ⟨some (.int (if t < 0 then -t else t)), [[]], by simp [cTurn, clear], fun y _ => ?_, rfl, zs ++ [if t < 0 then -t else t], by simp, by simp at e ⊢; omega⟩
          rw [List.length_map]
          exact Nat.lt_of_le_of_lt (by omega : zs.length ≤ 63) (by decide))
        (fun acc h => by
          rintro ⟨rfl, zs, rfl, e⟩
          exact ⟨rfl, zs, rfl, by simpa using e⟩) rfl (h := [[]]) ⟨rfl, [], rfl, by simp⟩
      obtain ⟨zs, rfl, ez⟩ := es
      have hz : zs.length ≤ sizeLine := Nat.le_trans (by omega : zs.length ≤ 63) (by decide)
      simp [e, hz]
      exact ⟨zs, ⟨i + 1, rfl, rfl⟩, by omega⟩
  revert key
  generalize blk (stateB call) [some (.scr ns), none, none] [[]] = o
  intro key
  replace key := key.out
  cases o with
  | ret d h =>
    obtain ⟨rfl, st, rfl, l⟩ := key
    exact ⟨st, ⟨rfl, rfl, by omega⟩, rfl⟩
  | _ => exact key.elim
end Bk

/-! BkMap: the laws' drawn maps. -/
namespace Bk
open PySem PySem.Spec PyProof.Rows L2
abbrev I4 := Int × Int × Int × Int
abbrev I3 := Int × Int × Int
def enc4 (p : I4) : D := .tup [.int p.1, .int p.2.1, .int p.2.2.1, .int p.2.2.2]
def enc3 (p : I3) : D := .tup [.int p.1, .int p.2.1, .int p.2.2]
structure LandT where
  signs : List Int
  paths : List I4
  slips : List I3
  t : Int
def encLand (l : LandT) : D := .tup [.tup (l.signs.map .int), .tup (l.paths.map enc4), .tup (l.slips.map enc3), .int l.t]
section
variable {h : Hs} (l : LandT)
@[simp] theorem ix_land0 : ixD (encLand l) (.int 0) h = .ok (.tup (l.signs.map .int)) h := id rfl
@[simp] theorem ix_land1 : ixD (encLand l) (.int 1) h = .ok (.tup (l.paths.map enc4)) h := id rfl
@[simp] theorem ix_land2 : ixD (encLand l) (.int 2) h = .ok (.tup (l.slips.map enc3)) h := id rfl
@[simp] theorem ix_land3 : ixD (encLand l) (.int 3) h = .ok (.int l.t) h := id rfl
@[simp] theorem ok_land (n) : (encLand l).ok n = true := by simp [encLand, D.ok, oks_map n enc4 (fun _ => rfl), oks_map n enc3 (fun _ => rfl), oks_map n D.int (fun _ => rfl)]
end
def keyLt (p q : I4) : Prop := p.1 < q.1 ∨ (p.1 = q.1 ∧ p.2.1 < q.2.1)
structure MapOk (most slips : Int) (l : LandT) : Prop where
  pos : 1 ≤ l.signs.length
  le : (l.signs.length : Int) ≤ most
  sgn : ∀ s ∈ l.signs, 0 ≤ s ∧ s < 10
  pth : ∀ p ∈ l.paths, (0 ≤ p.1 ∧ p.1 < l.signs.length) ∧ (0 ≤ p.2.1 ∧ p.2.1 < 6) ∧ (0 ≤ p.2.2.1 ∧ p.2.2.1 < l.signs.length) ∧ 1 ≤ p.2.2.2 ∧ p.2.2.2 ≤ 6
  ord : l.paths.Pairwise keyLt
  slp : ∀ f ∈ l.slips, (0 ≤ f.1 ∧ f.1 < l.paths.length) ∧ (0 ≤ f.2.1 ∧ f.2.1 < l.signs.length) ∧ 1 ≤ f.2.2 ∧ f.2.2 ≤ 6
  sll : (l.slips.length : Int) ≤ slips
  t0 : 0 ≤ l.t ∧ l.t < 3
  pln : l.paths.length ≤ 6 * l.signs.length
structure MapOkT (tb most slips : Int) (l : LandT) : Prop where
  pos : 1 ≤ l.signs.length
  le : (l.signs.length : Int) ≤ most
  sgn : ∀ s ∈ l.signs, 0 ≤ s ∧ s < 10
  pth : ∀ p ∈ l.paths, (0 ≤ p.1 ∧ p.1 < l.signs.length) ∧ (0 ≤ p.2.1 ∧ p.2.1 < 6) ∧ (0 ≤ p.2.2.1 ∧ p.2.2.1 < l.signs.length) ∧ 1 ≤ p.2.2.2 ∧ p.2.2.2 ≤ 6
  ord : l.paths.Pairwise keyLt
  slp : ∀ f ∈ l.slips, (0 ≤ f.1 ∧ f.1 < l.paths.length) ∧ (0 ≤ f.2.1 ∧ f.2.1 < l.signs.length) ∧ 1 ≤ f.2.2 ∧ f.2.2 ≤ 6
  sll : (l.slips.length : Int) ≤ slips
  t0 : 0 ≤ l.t ∧ l.t < tb
  pln : l.paths.length ≤ 6 * l.signs.length
/-- draws are told -/
def DrawOk (call : Str → List D → Hs → Res D) : Prop := ∀ m h, Good h → 0 < m → m < 1073741824 → call "_law_draw" [.loc 0 1, .int m] h = .ok (.int (dv m h)) (dn m h)
@[simp] theorem oks_enc4 (n : Nat) (ps : List I4) : D.oks n (ps.map enc4) = true := oks_map n _ (fun _ => rfl) ps
@[simp] theorem oks_enc3 (n : Nat) (ps : List I3) : D.oks n (ps.map enc3) = true := oks_map n _ (fun _ => rfl) ps
/-- drawn numbers in a row -/
theorem comp_draws {call : Str → List D → Hs → Res D} (hc : DrawOk call) {s0 : Sl} {i a b : Nat} {m : Int} (hm : 0 < m) (hm2 : m < 1073741824) {n : Nat} (hn : n ≤ 1000) {t0 : List Ob} {h0 : Hs} (q : Good h0) (f : Nat → D)
    (ev : ∀ x H, (eCall call "_law_draw" [rd a, rd b]) (s0.set i (some x)) H = call "_law_draw" [.loc 0 1, .int m] H) :
    ∃ (ns : List Int) (h' : Hs), compL (Wk.of ((List.range n).map f)) (cTurn (pV i) none (eCall call "_law_draw" [rd a, rd b]) s0) (Wk.of ((List.range n).map f)).most 0 [] (t0 :: h0) = .ok (ns.map .int) (t0 :: h') ∧ ns.length = n ∧ (∀ x ∈ ns, 0 ≤ x ∧ x < m) ∧ Dn h0 h' := by
  obtain ⟨ys, h', e, h1, ns, rfl, rfl, hn, hx, hd⟩ := comp_eq (turn := cTurn (pV i) none (eCall call "_law_draw" [rd a, rd b]) s0) f (fun r acc H => ∃ (h1 : Hs) (ns : List Int), H = t0 :: h1 ∧ acc = ns.map .int ∧ ns.length + r.length = n ∧ (∀ x ∈ ns, 0 ≤ x ∧ x < m) ∧ Dn h0 h1) (R := fun ys H => ∃ (h1 : Hs) (ns : List Int), H = t0 :: h1 ∧ ys = ns.map .int ∧ ns.length = n ∧ (∀ x ∈ ns, 0 ≤ x ∧ x < m) ∧ Dn h0 h1) (ts0 := List.range n)
    (fun t r acc H _ => by
      rintro ⟨h1, ns, rfl, rfl, el, hx, hd⟩
      have g1 : Good h1 := hd.good q
      refine ⟨some (.int (dv m h1)), t0 :: dn m h1, ?_, fun y _ => ?_, dn m h1, ns ++ [dv m h1], rfl, by simp, by simp at el ⊢; omega, ?_, hd.dn g1⟩
      · unfold cTurn
        rw [pV_ap]
        simp only [Res.bind_ok, if_true, ev, hc m _ (good_cons g1) hm hm2, dv_cons g1, dn_cons g1, noX_ok]
      · rw [List.length_map]
        simp at el
        exact szlt (by omega)
      · intro x hx'
        rcases List.mem_append.mp hx' with h | h
        · exact hx x h
        · rw [List.mem_singleton] at h
          subst h
          exact ⟨dv_lo hm _, dv_hi hm _⟩)
    (fun acc H => by
      rintro ⟨h1, ns, rfl, rfl, el, hx, hd⟩
      exact ⟨h1, ns, rfl, rfl, by simpa using el, hx, hd⟩) rfl (h := t0 :: h0) ⟨h0, [], rfl, rfl, by simp, by simp, Dn.refl q⟩
  exact ⟨ns, h1, e, hn, hx, hd⟩
def mapB_b3 (call : Str → List D → Hs → Res D) : List SS := [(sIf (tCmp (eBlt false .len [(rd 9)]) [(.Gt, (eC (.int 0)))]) [(sDrop (eMth .append (rd 12) [(eTup [(eCall call "_law_draw" [(rd 0), (eBlt false .len [(rd 9)])]), (eCall call "_law_draw" [(rd 0), (rd 3)]), (eBin false .Add (eC (.int 1)) (eCall call "_law_draw" [(rd 0), (rd 8)]))])]))] [])]
def mapB_b2 (call : Str → List D → Hs → Res D) : List SS := [(sIf (tCmp (eCall call "_law_draw" [(rd 0), (eC (.int 3))]) [(.Gt, (eC (.int 0)))]) [(sDrop (eMth .append (rd 9) [(eTup [(rd 10), (rd 11), (eCall call "_law_draw" [(rd 0), (rd 3)]), (eBin false .Add (eC (.int 1)) (eCall call "_law_draw" [(rd 0), (rd 8)]))])]))] [])]
def mapB_b1 (call : Str → List D → Hs → Res D) : List SS := [(sFor [] (wR1 (rd 7)) (gN (pV 11)) (mapB_b2 call))]
def mapBT (tb : Int) (call : Str → List D → Hs → Res D) : List SS := [(sSet 3 (eBin false .Add (eC (.int 1)) (eCall call "_law_draw" [(rd 0), (rd 1)]))), (sSet 4 (eIx (eList false [(eC (.int 1)), (eC (.int 2)), (eC (.int 3)), (eC (.int 10))]) (eCall call "_law_draw" [(rd 0), (eC (.int 4))]))), (sSet 5 (eBlt false .tuple [(eComp false [6] (wR1 (rd 3)) (pV 6) none (eCall call "_law_draw" [(rd 0), (rd 4)]))])), (sSet 7 (eIx (eList false [(eC (.int 2)), (eC (.int 3)), (eC (.int 6))]) (eCall call "_law_draw" [(rd 0), (eC (.int 3))]))), (sSet 8 (eIx (eList false [(eC (.int 1)), (eC (.int 2)), (eC (.int 6))]) (eCall call "_law_draw" [(rd 0), (eC (.int 3))]))), (sSet 9 (eList true [])), (sFor [] (wR1 (rd 3)) (gN (pV 10)) (mapB_b1 call)), (sSet 12 (eList true [])), (sFor [] (wR1 (eCall call "_law_draw" [(rd 0), (eBin false .Add (rd 2) (eC (.int 1)))])) (gN (pV 6)) (mapB_b3 call)), (sRet (eTup [(rd 5), (eBlt false .tuple [(rd 9)]), (eBlt false .tuple [(rd 12)]), (eCall call "_law_draw" [(rd 0), (eC (.int tb))])]))]
theorem pick4 {x : Int} (h0 : 0 ≤ x) (h1 : x < 4) (a b c d : Int) : ∃ y, atI [D.int a, .int b, .int c, .int d] x = some (.int y) ∧ (y = a ∨ y = b ∨ y = c ∨ y = d) := by
  have : x = 0 ∨ x = 1 ∨ x = 2 ∨ x = 3 := by omega
  rcases this with rfl | rfl | rfl | rfl
  · exact ⟨a, by simp, by simp⟩
  · exact ⟨b, by simp, by simp⟩
  · exact ⟨c, by simp, by simp⟩
  · exact ⟨d, by simp, by simp⟩
theorem pick3 {x : Int} (h0 : 0 ≤ x) (h1 : x < 3) (a b c : Int) : ∃ y, atI [D.int a, .int b, .int c] x = some (.int y) ∧ (y = a ∨ y = b ∨ y = c) := by
  have : x = 0 ∨ x = 1 ∨ x = 2 := by omega
  rcases this with rfl | rfl | rfl
  · exact ⟨a, by simp, by simp⟩
  · exact ⟨b, by simp, by simp⟩
  · exact ⟨c, by simp, by simp⟩
theorem wr1_nat {k : Nat} (hk : k ≤ 1000000) (h : Hs) : walkRng (.int 0) (.int (k : Int)) h = .ok (Wk.of ((List.range k).map fun i : Nat => .int (i : Int))) h := by
  rw [wrng, if_pos (by omega)]
  simp
theorem map_runT {tb : Int} (tb1 : 0 < tb) (tb2 : tb ≤ 100) {call : Str → List D → Hs → Res D} (hc : DrawOk call) {h : Hs} (q : Good h) {most slips : Int} (m1 : 1 ≤ most) (m2 : most ≤ 100) (s1 : 0 ≤ slips) (s2 : slips ≤ 100) :
    ∃ d h', finO false h.length (blk (mapBT tb call) [some (.loc 0 1), some (.int most), some (.int slips), none, none, none, none, none, none, none, none, none, none] ([] :: h)) = .ok d h' ∧ ∃ l, d = encLand l ∧ MapOkT tb most slips l ∧ Dn h h' := by
  refine fin_of ?_
  have mm : most < 1073741824 := by omega
  have tbm : tb < 1073741824 := by omega
  have m0 : 0 < most := by omega
  have hc' := hc
  unfold DrawOk at hc'
  have k0 := dv_lo m0 h
  have k1 := dv_hi m0 h
  obtain ⟨k, hk⟩ : ∃ k : Nat, 1 + dv most h = (k : Int) := ⟨(1 + dv most h).toNat, by omega⟩
  have hk1 : 1 ≤ k := by omega
  have hk2 : (k : Int) ≤ most := by omega
  have g1 : Good (dn most h) := good_dn q
  have d1 : Dn h (dn most h) := (Dn.refl q).dn q
  obtain ⟨kd, ek, hkd⟩ := pick4 (dv_lo (by decide) (dn most h)) (dv_hi (m := 4) (by decide) (dn most h)) 1 2 3 10
  have kd0 : 0 < kd := by omega
  have kd1 : kd ≤ 10 := by omega
  have g2 : Good (dn 4 (dn most h)) := good_dn g1
  have d2 : Dn h (dn 4 (dn most h)) := d1.dn g1
  obtain ⟨sg, h3, e3, sl, sx, d3'⟩ := comp_draws hc (s0 := clear [some (D.loc 0 1), some (.int most), some (.int slips), some (.int k), some (.int kd), none, none, none, none, none, none, none, none] [6]) (i := 6) (a := 0) (b := 4) (m := kd) kd0 (by omega) (n := k) (by omega) (t0 := []) g2 (fun i : Nat => .int (i : Int)) (fun x H => by simp [clear])
  have d3 : Dn h h3 := d2.trans d3'
  have g3 : Good h3 := d3.good q
  obtain ⟨wy, ew, hwy⟩ := pick3 (dv_lo (by decide) h3) (dv_hi (m := 3) (by decide) h3) 2 3 6
  obtain ⟨lg, el, hlg⟩ := pick3 (dv_lo (by decide) (dn 3 h3)) (dv_hi (m := 3) (by decide) (dn 3 h3)) 1 2 6
  have g5 : Good (dn 3 (dn 3 h3)) := good_dn (good_dn g3)
  have d5 : Dn h (dn 3 (dn 3 h3)) := (d3.dn g3).dn (good_dn g3)
  have hkl : k ≤ 1000000 := by omega
  unfold mapBT
  have hsl : sg.length ≤ sizeLine := szle (by omega)
  have hkz : k ≤ sizeLine := szle hkl
  have wr1 := fun H => wr1_nat hkl H
  have l3 : h3.length = h.length := d3.len
  simp (maxDischargeDepth := 30) [hc', q, g1, g2, g3, m0, mm, hk, ek, wr1, e3, kd0, ew, el, hsl, sl, hkz, l3]
  have wr2 : ∀ H, walkRng (.int 0) (.int wy) H = .ok (Wk.of ((List.range wy.toNat).map fun i : Nat => .int (i : Int))) H := fun H => by
    rw [show wy = ((wy.toNat : Nat) : Int) by omega]; exact wr1_nat (by omega) H
  have lg0 : 0 < lg := by omega
  have lg1 : lg < 1073741824 := by omega
  have kk0 : (0 : Int) < k := by omega
  have kk1 : (k : Int) < 1073741824 := by omega
  have kk2 : 0 < k := hk1
  have kk3 : k < 1073741824 := by omega
  refine sat_seq (for_rng (fun i : Nat => D.int (i : Int)) k (fun i s H => ∃ (X : Hs) (ps : List I4) (x10 x11 : Option D), s = [some (.loc 0 1), some (.int most), some (.int slips), some (.int k), some (.int kd), some (.tup (sg.map .int)), none, some (.int wy), some (.int lg), some (.loc h.length 0), x10, x11, none] ∧ H = [.lst (ps.map enc4)] :: X ∧ Dn h X ∧ ps.length ≤ 6 * i ∧ ps.Pairwise keyLt ∧ ∀ p ∈ ps, (0 ≤ p.1 ∧ p.1 < i) ∧ (0 ≤ p.2.1 ∧ p.2.1 < 6) ∧ (0 ≤ p.2.2.1 ∧ p.2.2.1 < k) ∧ 1 ≤ p.2.2.2 ∧ p.2.2.2 ≤ 6) ?_ ?_ ?_)
  · exact ⟨_, [], none, none, rfl, rfl, d5, by simp, by simp, by simp⟩
  · rintro i s H hi ⟨X, ps, x10, x11, rfl, rfl, dX, pl, pp, pb⟩
    simp [-Prod.forall, mapB_b1, wr2]
    refine sat_seq (for_rng (fun i : Nat => D.int (i : Int)) wy.toNat (fun j s H => ∃ (X : Hs) (ps : List I4) (x11 : Option D), s = [some (.loc 0 1), some (.int most), some (.int slips), some (.int k), some (.int kd), some (.tup (sg.map .int)), none, some (.int wy), some (.int lg), some (.loc h.length 0), some (.int i), x11, none] ∧ H = [.lst (ps.map enc4)] :: X ∧ Dn h X ∧ ps.length ≤ 6 * i + j ∧ ps.Pairwise keyLt ∧ ∀ p ∈ ps, (0 ≤ p.1 ∧ (p.1 < i ∨ (p.1 = i ∧ p.2.1 < j))) ∧ (0 ≤ p.2.1 ∧ p.2.1 < 6) ∧ (0 ≤ p.2.2.1 ∧ p.2.2.1 < k) ∧ 1 ≤ p.2.2.2 ∧ p.2.2.2 ≤ 6) ?_ ?_ ?_)
    · exact ⟨X, ps, x11, rfl, rfl, dX, by omega, pp, fun p hp => ⟨⟨(pb p hp).1.1, .inl (pb p hp).1.2⟩, (pb p hp).2⟩⟩
    · rintro j s H hj ⟨X, ps, x11, rfl, rfl, dX, pl, pp, pb⟩
      have gX : Good X := dX.good q
      have lX : X.length = h.length := dX.len
      have hps : ps.length < sizeLine := szlt (by omega)
      simp (maxDischargeDepth := 30) [-Prod.forall, mapB_b2, hc', gX]
      by_cases hd : 0 < dv 3 X
      · have gX3 : Good (dn 3 X) := good_dn gX
        simp (maxDischargeDepth := 30) [-Prod.forall, hd, hc', gX, gX3, kk0, kk1, kk2, kk3, lg0, lg1, lX, hps, nextP, clear]
        have b1 := dv_lo kk0 (dn 3 X)
        have b2 := dv_hi kk0 (dn 3 X)
        have b3 := dv_lo lg0 (dn k (dn 3 X))
        have b4 := dv_hi lg0 (dn k (dn 3 X))
        refine ⟨_, ps ++ [((i : Int), (j : Int), dv k (dn 3 X), 1 + dv lg (dn k (dn 3 X)))], ⟨by simp [enc4], rfl⟩, ((dX.dn gX).dn gX3).dn (good_dn gX3), ?_, ?_, ?_⟩
        · rw [List.length_append, List.length_singleton]; omega
        · refine List.pairwise_append.mpr ⟨pp, List.pairwise_singleton _ _, fun x hx y hy => ?_⟩
          rw [List.mem_singleton] at hy
          subst hy
          have := (pb x hx).1
          unfold keyLt
          simp only
          omega
        · intro p hp
          rcases List.mem_append.mp hp with hp | hp
          · have := pb p hp
            exact ⟨⟨this.1.1, by omega⟩, this.2⟩
          · rw [List.mem_singleton] at hp
            subst hp
            refine ⟨⟨?_, ?_⟩, ⟨?_, ?_⟩, ⟨b1, b2⟩, ?_, ?_⟩ <;> simp <;> omega
      · simp [-Prod.forall, hd, nextP, clear]
        exact ⟨_, ps, ⟨rfl, rfl⟩, dX.dn gX, by omega, pp, fun p hp => ⟨⟨(pb p hp).1.1, by have := (pb p hp).1.2; omega⟩, (pb p hp).2⟩⟩
    · rintro s H ⟨X, ps, x11, rfl, rfl, dX, pl, pp, pb⟩
      simp [-Prod.forall, nextP, clear]
      refine ⟨X, ps, ⟨rfl, rfl⟩, dX, by omega, pp, fun p hp => ⟨⟨(pb p hp).1.1, ?_⟩, (pb p hp).2⟩⟩
      have := (pb p hp).1.2
      omega
  · rintro s H ⟨X, ps, x10, x11, rfl, rfl, dX, pl, pp, pb⟩
    have gX : Good X := dX.good q
    have lX : X.length = h.length := dX.len
    have sp0 : 0 < slips + 1 := by omega
    have sp1 : slips + 1 < 1073741824 := by omega
    have c0 := dv_lo sp0 X
    have c1 := dv_hi sp0 X
    obtain ⟨u, hu⟩ : ∃ u : Nat, dv (slips + 1) X = (u : Int) := ⟨(dv (slips + 1) X).toNat, by omega⟩
    have wr3 := fun H => wr1_nat (k := u) (by omega) H
    simp (maxDischargeDepth := 30) [-Prod.forall, hc', gX, lX, sp0, sp1, hu, wr3]
    refine sat_seq (for_rng (fun i : Nat => D.int (i : Int)) u (fun i s H => ∃ (Y : Hs) (fs : List I3) (x6 : Option D), s = [some (.loc 0 1), some (.int most), some (.int slips), some (.int k), some (.int kd), some (.tup (sg.map .int)), x6, some (.int wy), some (.int lg), some (.loc h.length 0), x10, x11, some (.loc h.length 1)] ∧ H = [.lst (ps.map enc4), .lst (fs.map enc3)] :: Y ∧ Dn h Y ∧ fs.length ≤ i ∧ ∀ f ∈ fs, (0 ≤ f.1 ∧ f.1 < ps.length) ∧ (0 ≤ f.2.1 ∧ f.2.1 < k) ∧ 1 ≤ f.2.2 ∧ f.2.2 ≤ 6) ?_ ?_ ?_)
    · exact ⟨_, [], none, rfl, rfl, dX.dn gX, by simp, by simp⟩
    · rintro i s H hi ⟨Y, fs, x6, rfl, rfl, dY, fl, fb⟩
      have gY : Good Y := dY.good q
      have lY : Y.length = h.length := dY.len
      by_cases hp : 0 < ps.length
      · have hp2 : ps.length < 1073741824 := by omega
        have hpn : ps ≠ [] := List.length_pos_iff.mp hp
        have hfs : fs.length < sizeLine := szlt (by omega)
        have hp3 : (0 : Int) < ps.length := by omega
        have hp4 : (ps.length : Int) < 1073741824 := by omega
        have gY3 : Good (dn ps.length Y) := good_dn gY
        have b1 := dv_lo hp3 Y
        have b2 := dv_hi hp3 Y
        have b3 := dv_lo kk0 (dn ps.length Y)
        have b4 := dv_hi kk0 (dn ps.length Y)
        have b5 := dv_lo lg0 (dn k (dn ps.length Y))
        have b6 := dv_hi lg0 (dn k (dn ps.length Y))
        simp (maxDischargeDepth := 30) [-Prod.forall, mapB_b3, hp, hpn, hp2, hp3, hp4, hc', gY, lY, kk0, kk1, kk2, kk3, lg0, lg1, hfs, nextP, clear]
        refine ⟨_, fs ++ [(dv ps.length Y, dv k (dn ps.length Y), 1 + dv lg (dn k (dn ps.length Y)))], ⟨by simp [enc3], rfl⟩, ((dY.dn gY).dn gY3).dn (good_dn gY3), ?_, ?_⟩
        · rw [List.length_append, List.length_singleton]; omega
        · intro f hf
          rcases List.mem_append.mp hf with hf | hf
          · exact fb f hf
          · rw [List.mem_singleton] at hf
            subst hf
            refine ⟨⟨b1, b2⟩, ⟨b3, b4⟩, ?_, ?_⟩ <;> simp only <;> omega
      · simp (maxDischargeDepth := 30) [-Prod.forall, mapB_b3, hp, lY, nextP, clear]
        exact ⟨_, fs, ⟨rfl, rfl⟩, dY, by omega, fb⟩
    · rintro s H ⟨Y, fs, x6, rfl, rfl, dY, fl, fb⟩
      have gY : Good Y := dY.good q
      have lY : Y.length = h.length := dY.len
      simp (maxDischargeDepth := 30) [-Prod.forall, hc', gY, lY, tb1, tbm]
      refine ⟨_, _, ⟨rfl, rfl⟩, ⟨sg, ps, fs, dv tb Y⟩, rfl, ⟨?_, ?_, ?_, ?_, pp, ?_, ?_, ?_, ?_⟩, dY.dn gY⟩
      · simp only; omega
      · simp only; omega
      · intro x hx
        have := sx x hx
        omega
      · intro p hp
        have := pb p hp
        simp only [sl]
        exact this
      · intro f hf
        have := fb f hf
        simp only [sl]
        exact this
      · simp only; omega
      · exact ⟨dv_lo tb1 _, dv_hi tb1 _⟩
      · simp only; omega
def mapB (call : Str → List D → Hs → Res D) : List SS := mapBT 3 call
theorem map_run {call : Str → List D → Hs → Res D} (hc : DrawOk call) {h : Hs} (q : Good h) {most slips : Int} (m1 : 1 ≤ most) (m2 : most ≤ 100) (s1 : 0 ≤ slips) (s2 : slips ≤ 100) :
    ∃ d h', finO false h.length (blk (mapB call) [some (.loc 0 1), some (.int most), some (.int slips), none, none, none, none, none, none, none, none, none, none] ([] :: h)) = .ok d h' ∧ ∃ l, d = encLand l ∧ MapOk most slips l ∧ Dn h h' := by
  obtain ⟨d, h', e, l, e2, ok, dn⟩ := map_runT (tb := 3) (by decide) (by decide) hc q m1 m2 s1 s2
  exact ⟨d, h', e, l, e2, ⟨ok.pos, ok.le, ok.sgn, ok.pth, ok.ord, ok.slp, ok.sll, ok.t0, ok.pln⟩, dn⟩
end Bk

/-! BkOwn: walks over lists that may lie in the heap. -/
namespace Bk
open PySem PySem.Spec PyProof.Rows L2
theorem own_cons {d : D} {h : Hs} {xs : List D} {t : List Ob} (e : d.own h = some xs) : d.own (t :: h) = some xs := by
  cases d with
  | loc l k =>
    have := gt_lt (cur_iff.mp e)
    show cur (t :: h) l k = _
    rw [cur_cons, if_neg (by omega)]
    exact e
  | _ => exact e
theorem walk_own {d : D} {h : Hs} {xs : List D} (ho : d.own h = some xs) : ∃ w, walkSeq d h = .ok w h ∧ w.most = xs.length ∧ ∀ i H, d.own H = some xs → w.nxt i H = some xs[i]? := by
  cases d with
  | lst ys =>
    cases ho
    exact ⟨_, rfl, rfl, fun _ _ _ => rfl⟩
  | loc l k =>
    have e : cur h l k = some xs := ho
    refine ⟨Wk.at xs.length l k fun _ d => d, by unfold walkSeq; simp only [e], rfl, fun i H hH => ?_⟩
    show (cur H l k).map _ = _
    rw [show cur H l k = some xs from hH]
    simp
  | _ => cases ho
theorem for_w {T : Type} {body : D → Sl → Hs → Out} {cl : List Nat} {P : Po} (enc : T → D) (I : List T → Sl → Hs → Prop) {w : Wk} {xs : List D} {ts : List T} (hx : xs = ts.map enc) (hm : w.most = xs.length) (hw : ∀ r s h, I r s h → ∀ i, w.nxt i h = some xs[i]?) {s : Sl} {h : Hs} (h0 : I ts s h)
    (step : ∀ t r s h, t ∈ ts → I (t :: r) s h → (body (enc t) s h).sat (nextP cl (I r) P)) (fin : ∀ s h, I [] s h → P.n s h) : (forL w body cl w.most 0 s h).sat P := by
  subst hx
  have hm' : w.most = ts.length := by simpa using hm
  refine forL_sat w (fun i s h => i ≤ ts.length ∧ I (ts.drop i) s h) (fun i s h q => ?_) _ _ _ _ (by simp) ⟨by omega, by simpa using h0⟩
  by_cases hi : i < ts.length
  · refine .inr ⟨enc ts[i], ?_, by omega, ?_⟩
    · rw [hw _ _ _ q.2]
      simp [hi]
    · have := q.2
      rw [List.drop_eq_getElem_cons hi] at this
      exact (step _ _ _ _ (List.getElem_mem hi) this).imp (fun s h q => ⟨by omega, q⟩) (fun _ _ q => q) (fun _ _ q => q) fun s h q => ⟨by omega, q⟩
  · refine .inl ⟨?_, fin _ _ ?_⟩
    · rw [hw _ _ _ q.2]
      simp; omega
    · have := q.2
      rwa [List.drop_eq_nil_of_le (by omega)] at this
theorem comp_w {T : Type} {turn : D → Hs → Res (Option D)} (enc : T → D) (I : List T → List D → Hs → Prop) {R : List D → Hs → Prop} {w : Wk} {xs : List D} {ts0 : List T} (hx : xs = ts0.map enc) (hm : w.most = xs.length) (hw : ∀ r acc h, I r acc h → ∀ i, w.nxt i h = some xs[i]?) (step : ∀ t r acc h, t ∈ ts0 → I (t :: r) acc h → ∃ o h', turn (enc t) h = .ok o h' ∧ (∀ y, o = some y → acc.length < sizeLine) ∧ I r (acc ++ o.toList) h') (fin : ∀ acc h, I [] acc h → R acc h) {h : Hs} (h0 : I ts0 [] h) :
    ∃ ys h', compL w turn w.most 0 [] h = .ok ys h' ∧ R ys h' := by
  subst hx
  have hm' : w.most = ts0.length := by simpa using hm
  have key : ∀ (m i : Nat) (acc : List D) (h : Hs), i + m = ts0.length → I (ts0.drop i) acc h → ∃ ys h', compL w turn m i acc h = .ok ys h' ∧ R ys h' := by
    intro m
    induction m with
    | zero =>
      intro i acc h e q
      refine ⟨acc, h, ?_, fin _ _ ?_⟩
      · unfold compL
        rw [hw _ _ _ q]
        have : (ts0.map enc)[i]? = none := by simp; omega
        rw [this]
      · rwa [List.drop_eq_nil_of_le (by omega)] at q
    | succ m ih =>
      intro i acc h e q
      have hi : i < ts0.length := by omega
      have q' := q
      rw [List.drop_eq_getElem_cons hi] at q
      obtain ⟨o, h', e1, e2, q1⟩ := step _ _ _ _ (List.getElem_mem hi) q
      unfold compL
      rw [hw _ _ _ q']
      have : (ts0.map enc)[i]? = some (enc ts0[i]) := by simp [hi]
      rw [this]
      simp only [e1, Res.bind_ok]
      cases o with
      | none => exact ih (i + 1) acc h' (by omega) (by simpa using q1)
      | some y =>
        simp only
        rw [if_pos (e2 y rfl)]
        exact ih (i + 1) _ h' (by omega) (by simpa using q1)
  have := key ts0.length 0 [] h (by simp) (by simpa using h0)
  rw [hm']
  exact this
/-- a filter over a list that stays -/
theorem comp_filter {T : Type} {turn : D → Hs → Res (Option D)} (enc : T → D) {w : Wk} {xs : List D} {ts : List T} {h : Hs} (p : T → Bool) (hx : xs = ts.map enc) (hm : w.most = xs.length) (hw : ∀ i, w.nxt i h = some xs[i]?) (hl : ts.length ≤ 1000000)
    (step : ∀ t, t ∈ ts → turn (enc t) h = .ok (if p t then some (enc t) else none) h) : compL w turn w.most 0 [] h = .ok ((ts.filter p).map enc) h := by
  obtain ⟨ys, h', e, rfl, rfl⟩ := comp_w (turn := turn) enc (fun r acc H => H = h ∧ ∃ d, ts = d ++ r ∧ acc = (d.filter p).map enc) (R := fun ys H => H = h ∧ ys = (ts.filter p).map enc) hx hm (fun r acc H q => by rw [q.1]; exact hw)
    (fun t r acc H ht => by
      rintro ⟨rfl, d, e, rfl⟩
      refine ⟨_, H, step t ht, fun y _ => ?_, rfl, d ++ [t], by simp [e], ?_⟩
      · rw [List.length_map]
        refine szlt (Nat.le_trans (List.length_filter_le _ _) ?_)
        rw [e, List.length_append] at hl
        omega
      · rw [List.filter_append, List.map_append]
        by_cases hp : p t = true
        · simp [hp]
        · simp [hp])
    (fun acc H => by
      rintro ⟨rfl, d, e, rfl⟩
      rw [List.append_nil] at e
      subst e
      exact ⟨rfl, rfl⟩) (h := h) ⟨rfl, [], rfl, rfl⟩
  exact e
/-- pairs of ints -/
def enc2 (p : Int × Int) : D := .tup [.int p.1, .int p.2]
@[simp] theorem oks_enc2 (n : Nat) (ps : List (Int × Int)) : D.oks n (ps.map enc2) = true := oks_map n _ (fun _ => rfl) ps
theorem pus_enc2 (ps : List (Int × Int)) : D.pus 59 (ps.map enc2) = true := pus_map 59 _ (fun _ => rfl) ps
theorem enc2_inj {p q : Int × Int} : enc2 p = enc2 q ↔ p = q := by
  unfold enc2
  rw [D.tup.injEq, List.cons.injEq, List.cons.injEq, D.int.injEq, D.int.injEq, Prod.ext_iff]
  simp
theorem enc2_mem {p : Int × Int} {ps : List (Int × Int)} : enc2 p ∈ ps.map enc2 ↔ p ∈ ps := by
  rw [List.mem_map]
  constructor
  · rintro ⟨q, h, e⟩
    exact enc2_inj.mp e ▸ h
  · exact fun h => ⟨p, h, rfl⟩
open Classical in
theorem in_enc2 {d : D} {h : Hs} {ps : List (Int × Int)} (ho : d.own h = some (ps.map enc2)) (a b : Int) : inD (.tup [.int a, .int b]) d h = some (decide ((a, b) ∈ ps)) := by
  rw [inD_own ho rfl rfl (pus_enc2 ps)]
  congr 1
  rw [Bool.eq_iff_iff, decide_eq_true_iff, decide_eq_true_iff]
  exact enc2_mem (p := (a, b))
theorem cmp_in_enc2 {d : D} {h : Hs} {ps : List (Int × Int)} (ho : d.own h = some (ps.map enc2)) (a b : Int) : cmpR .In (.tup [.int a, .int b]) d h = .ok (.bl (decide ((a, b) ∈ ps))) h := cmp_in_of (in_enc2 ho a b)
theorem cmp_ni_enc2 {d : D} {h : Hs} {ps : List (Int × Int)} (ho : d.own h = some (ps.map enc2)) (a b : Int) : cmpR .NotIn (.tup [.int a, .int b]) d h = .ok (.bl (!decide ((a, b) ∈ ps))) h := cmp_ni_of (in_enc2 ho a b)
end Bk

/-! BkTerr: the laws' drawn terrains. -/
namespace Bk
open PySem PySem.Spec PyProof.Rows L2
def pickB (call : Str → List D → Hs → Res D) : List SS := [(sRet (eIx (rd 1) (eCall call "_law_draw" [(rd 0), (eBlt false .len [(rd 1)])])))]
/-- a drawn item of a row -/
theorem pick_run {call : Str → List D → Hs → Res D} (hc : DrawOk call) {h : Hs} (q : Good h) {xs : List D} (h0 : xs ≠ []) (hl : xs.length ≤ 1000000) (ho : ∀ x ∈ xs, x.ok h.length = true) :
    ∃ (v : D) (j : Nat), xs[j]? = some v ∧ (j : Int) = dv xs.length h ∧ finO false h.length (blk (pickB call) [some (.loc 0 1), some (.lst xs)] ([] :: h)) = .ok v (dn xs.length h) := by
  have p0 : 0 < xs.length := List.length_pos_iff.mpr h0
  have p1 : (0 : Int) < xs.length := by omega
  have p2 : (xs.length : Int) < 1073741824 := by omega
  have p3 : xs.length < 1073741824 := by omega
  have b0 := dv_lo p1 h
  have b1 := dv_hi p1 h
  obtain ⟨j, hj⟩ := Int.eq_ofNat_of_zero_le b0
  have hjl : j < xs.length := by omega
  refine ⟨xs[j], j, List.getElem?_eq_getElem hjl, hj.symm, fin_eq ?_⟩
  have hc' := hc
  unfold DrawOk at hc'
  have ea : atI xs (j : Int) = some xs[j] := by rw [Bk.atI_nat, List.getElem?_eq_getElem hjl]
  simp (maxDischargeDepth := 30) [pickB, hc', q, h0, p0, p1, p2, p3, hj, ea]
  exact ho _ (List.getElem_mem hjl)
/-- drawn items are told -/
def PickOk (call : Str → List D → Hs → Res D) : Prop := ∀ (xs : List D) (h : Hs), Good h → xs ≠ [] → xs.length ≤ 1000000 → (∀ x ∈ xs, x.ok h.length = true) → ∃ (v : D) (j : Nat), xs[j]? = some v ∧ (j : Int) = dv xs.length h ∧ call "_law_pick" [.loc 0 1, .lst xs] h = .ok v (dn xs.length h)
theorem pick_ints {call : Str → List D → Hs → Res D} (hp : PickOk call) (xs : List Int) {h : Hs} (q : Good h) (h0 : xs ≠ []) (hl : xs.length ≤ 1000000) : ∃ v ∈ xs, call "_law_pick" [.loc 0 1, .lst (xs.map .int)] h = .ok (.int v) (dn xs.length h) := by
  obtain ⟨v, j, e1, _, e2⟩ := hp (xs.map .int) h q (by simpa using h0) (by simpa using hl) (fun x hx => by
    obtain ⟨i, _, rfl⟩ := List.mem_map.mp hx
    rfl)
  rw [List.getElem?_map, Option.map_eq_some_iff] at e1
  obtain ⟨i, hi, rfl⟩ := e1
  rw [List.length_map] at e2
  exact ⟨i, List.mem_of_getElem? hi, e2⟩
structure Terr where
  hts : List Int
  trk : List I3
def encTerr (t : Terr) : D := .tup [.tup (t.hts.map .int), .tup (t.trk.map enc3)]
structure TerrOk (points tracks : Int) (t : Terr) : Prop where
  len : (t.hts.length : Int) = points
  hts : ∀ x ∈ t.hts, 0 ≤ x ∧ x < 100
  trl : (t.trk.length : Int) ≤ tracks
  trk : ∀ r ∈ t.trk, (0 ≤ r.1 ∧ r.1 < points) ∧ (0 ≤ r.2.1 ∧ r.2.1 < points) ∧ r.1 ≠ r.2.1 ∧ 1 ≤ r.2.2 ∧ r.2.2 ≤ 99
def terrB_b1 (call : Str → List D → Hs → Res D) : List SS := [(sSet 6 (eCall call "_law_draw" [(rd 0), (rd 1)])), (sSet 7 (eBin false .Mod (eBlt false .int [(eBin false .Add (eBin false .Add (rd 6) (eC (.int 1))) (eCall call "_law_draw" [(rd 0), (eBin false .Sub (rd 1) (eC (.int 1)))]))]) (rd 1))), (sDrop (eMth .append (rd 5) [(eTup [(rd 6), (rd 7), (eBin false .Add (eC (.int 1)) (eCall call "_law_draw" [(rd 0), (eCall call "_law_pick" [(rd 0), (eList false [(eC (.int 2)), (eC (.int 5)), (eC (.int 99))])])]))])]))]
def terrB (call : Str → List D → Hs → Res D) : List SS := [(sSet 3 (eBlt false .tuple [(eComp false [4] (wR1 (rd 1)) (pV 4) none (eCall call "_law_draw" [(rd 0), (eCall call "_law_pick" [(rd 0), (eList false [(eC (.int 3)), (eC (.int 100))])])]))])), (sSet 5 (eList true [])), (sFor [] (wR1 (eBin false .Mult (rd 2) (eBlt false .int [(eCmp (rd 1) [(.Gt, (eC (.int 1)))])]))) (gN (pV 4)) (terrB_b1 call)), (sRet (eTup [(rd 3), (eBlt false .tuple [(rd 5)])]))]
theorem terr_run {call : Str → List D → Hs → Res D} (hc : DrawOk call) (hp : PickOk call) {h : Hs} (q : Good h) {points tracks : Nat} (p1 : 1 ≤ points) (p2 : points ≤ 1000) (t2 : tracks ≤ 1000) :
    ∃ d h', finO false h.length (blk (terrB call) [some (.loc 0 1), some (.int points), some (.int tracks), none, none, none, none, none] ([] :: h)) = .ok d h' ∧ ∃ t, d = encTerr t ∧ TerrOk points tracks t ∧ Dn h h' := by
  refine fin_of ?_
  have hc' := hc
  unfold DrawOk at hc'
  have wr1 : ∀ H, walkRng (.int 0) (.int (points : Int)) H = .ok (Wk.of ((List.range points).map fun i : Nat => .int (i : Int))) H := fun H => wr1_nat (by omega) H
  obtain ⟨ys, hX, ec, X, hs, rfl, rfl, hl, hb, dX⟩ := comp_eq (turn := cTurn (pV 4) none (eCall call "_law_draw" [(rd 0), (eCall call "_law_pick" [(rd 0), (eList false [(eC (.int 3)), (eC (.int 100))])])]) (clear [some (D.loc 0 1), some (.int points), some (.int tracks), none, none, none, none, none] [4])) (fun i : Nat => D.int (i : Int)) (fun r acc H => ∃ (X : Hs) (ns : List Int), H = [] :: X ∧ acc = ns.map .int ∧ ns.length + r.length = points ∧ (∀ x ∈ ns, 0 ≤ x ∧ x < 100) ∧ Dn h X) (R := fun ys H => ∃ (X : Hs) (ns : List Int), H = [] :: X ∧ ys = ns.map .int ∧ ns.length = points ∧ (∀ x ∈ ns, 0 ≤ x ∧ x < 100) ∧ Dn h X) (ts0 := List.range points)
    (fun i r acc H hi => by
      rintro ⟨X, ns, rfl, rfl, el, hx, hd⟩
      have gg : Good X := hd.good q
      simp only [List.length_cons] at el
      obtain ⟨v, hv, ev⟩ := pick_ints hp [3, 100] (good_cons (t := []) gg) (by simp) (by simp)
      simp only [List.mem_cons, List.not_mem_nil, or_false] at hv
      have v0 : 0 < v := by omega
      have v1 : v < 1073741824 := by omega
      simp [gg] at ev
      have g2 : Good (dn 2 X) := good_dn gg
      have b0 := dv_lo v0 (dn 2 X)
      have b1 := dv_hi v0 (dn 2 X)
      refine ⟨some (.int (dv v (dn 2 X))), [] :: dn v (dn 2 X), by simp (maxDischargeDepth := 30) [cTurn, clear, ev, hc', g2, gg, v0, v1], fun y _ => szlt (by simp; omega), _, ns ++ [dv v (dn 2 X)], rfl, by simp, by simp; omega, ?_, (hd.dn gg).dn g2⟩
      intro x hx'
      rcases List.mem_append.mp hx' with h | h
      · exact hx x h
      · rw [List.mem_singleton] at h
        omega)
    (fun acc H => by
      rintro ⟨X, ns, rfl, rfl, el, hx, hd⟩
      exact ⟨X, ns, rfl, rfl, by simpa using el, hx, hd⟩) rfl (h := [] :: h) ⟨_, [], rfl, rfl, by simp, by simp, Dn.refl q⟩
  have gX : Good X := dX.good q
  have lX : X.length = h.length := dX.len
  have hls : hs.length ≤ sizeLine := szle (by omega)
  have hpz : points ≤ sizeLine := szle (by omega)
  have kt : ((-18446744073709551616 : Int) < tracks ∧ (tracks : Int) < 18446744073709551616) := by omega
  obtain ⟨u, hu, hu2, hu3⟩ : ∃ u : Nat, (tracks : Int) * (if (1 : Int) < points then 1 else 0) = u ∧ u ≤ tracks ∧ (0 < u → 1 < points) := by
    by_cases h1 : (1 : Int) < points
    · exact ⟨tracks, by rw [if_pos h1]; omega, Nat.le_refl _, fun _ => by omega⟩
    · exact ⟨0, by rw [if_neg h1]; omega, by omega, fun h => by omega⟩
  have wr2 : ∀ H, walkRng (.int 0) (.int (u : Int)) H = .ok (Wk.of ((List.range u).map fun i : Nat => .int (i : Int))) H := fun H => wr1_nat (by omega) H
  have ib : ∀ (b : Bool) (H : Hs), bltD false .int [.bl b] H = .ok (.int (if b then 1 else 0)) H := fun b H => rfl
  have p0 : 0 < points := p1
  have p3 : (0 : Int) < points := by omega
  have p4 : (points : Int) < 1073741824 := by omega
  have p5 : points < 1073741824 := by omega
  have hu' : (tracks : Int) * (if decide ((1 : Int) < points) = true then 1 else 0) = u := by simpa using hu
  have em : ∀ H, binD false .Mult (.int (tracks : Int)) (.int (if decide ((1 : Int) < points) = true then 1 else 0)) H = .ok (.int (u : Int)) H := fun H => by
    rw [bin_int, intOp_mul, if_pos (.inl (by omega)), hu']
  unfold terrB
  simp only [blk_cons]
  simp [-decide_eq_true_eq, wr1, ec, hls, hl, hpz, lX, ib, em, wr2]
  refine sat_seq (for_rng (fun i : Nat => D.int (i : Int)) u (fun i s H => ∃ (Y : Hs) (rs : List I3) (x4 x6 x7 : Option D), s = [some (.loc 0 1), some (.int points), some (.int tracks), some (.tup (hs.map .int)), x4, some (.loc h.length 0), x6, x7] ∧ H = [.lst (rs.map enc3)] :: Y ∧ Dn h Y ∧ rs.length ≤ i ∧ ∀ r ∈ rs, (0 ≤ r.1 ∧ r.1 < points) ∧ (0 ≤ r.2.1 ∧ r.2.1 < points) ∧ r.1 ≠ r.2.1 ∧ 1 ≤ r.2.2 ∧ r.2.2 ≤ 99) ?_ ?_ ?_)
  · exact ⟨X, [], none, none, none, rfl, rfl, dX, by simp, by simp⟩
  · rintro i s H hi ⟨Y, rs, x4, x6, x7, rfl, rfl, dY, rl, rb⟩
    have gY : Good Y := dY.good q
    have lY : Y.length = h.length := dY.len
    have h1 : 1 < points := hu3 (by omega)
    have hr : rs.length < sizeLine := szlt (by omega)
    obtain ⟨m1, hm1⟩ : ∃ m1 : Int, (points : Int) - 1 = m1 := ⟨_, rfl⟩
    have q0 : 0 < m1 := by omega
    have q1 : m1 < 1073741824 := by omega
    have gY2 : Good (dn points Y) := good_dn gY
    have gY3 : Good (dn m1 (dn points Y)) := good_dn gY2
    have b0 := dv_lo p3 Y
    have b1 := dv_hi p3 Y
    have b2 := dv_lo q0 (dn points Y)
    have b3 := dv_hi q0 (dn points Y)
    obtain ⟨v, hv, ev⟩ := pick_ints hp [2, 5, 99] (good_cons (t := [.lst (rs.map enc3)]) gY3) (by simp) (by simp)
    simp only [List.mem_cons, List.not_mem_nil, or_false] at hv
    have v0 : 0 < v := by omega
    have v1 : v < 1073741824 := by omega
    simp [gY3] at ev
    have gY4 : Good (dn 3 (dn m1 (dn points Y))) := good_dn gY3
    have b4 := dv_lo v0 (dn 3 (dn m1 (dn points Y)))
    have b5 := dv_hi v0 (dn 3 (dn m1 (dn points Y)))
    obtain ⟨a, ha⟩ : ∃ a, dv points Y = a := ⟨_, rfl⟩
    obtain ⟨b, hb'⟩ : ∃ b, dv m1 (dn points Y) = b := ⟨_, rfl⟩
    have pn : (points : Int) ≠ 0 := by omega
    have pn2 : points ≠ 0 := by omega
    rw [ha] at b0 b1
    rw [hb'] at b2 b3
    simp (maxDischargeDepth := 30) [-Prod.forall, terrB_b1, hc', gY, gY2, gY3, gY4, p0, p3, p4, p5, hm1, q0, q1, ev, v0, v1, ha, hb', pn, pn2, lY, hr, nextP, clear]
    have hw : (a + 1 + b).fmod (points : Int) = if a + 1 + b < points then a + 1 + b else a + 1 + b - points := by
      rw [Int.fmod_eq_emod_of_nonneg _ (by omega)]
      split
      · exact Int.emod_eq_of_lt (by omega) (by omega)
      · rw [← Int.emod_eq_of_lt (a := a + 1 + b - points) (b := points) (by omega) (by omega), Int.sub_emod_right]
    refine ⟨_, rs ++ [(a, (a + 1 + b).fmod points, 1 + dv v (dn 3 (dn m1 (dn points Y))))], ⟨by simp [enc3], rfl⟩, (((dY.dn gY).dn gY2).dn gY3).dn gY4, ?_, fun r hr => ?_⟩
    · rw [List.length_append, List.length_singleton]; omega
    · rcases List.mem_append.mp hr with hr | hr
      · exact rb r hr
      · rw [List.mem_singleton] at hr
        subst hr
        simp only
        rw [hw]
        split
        · exact ⟨⟨b0, b1⟩, ⟨by omega, by omega⟩, by omega, by omega, by omega⟩
        · exact ⟨⟨b0, b1⟩, ⟨by omega, by omega⟩, by omega, by omega, by omega⟩
  · rintro s H ⟨Y, rs, x4, x6, x7, rfl, rfl, dY, rl, rb⟩
    have lY : Y.length = h.length := dY.len
    simp [-Prod.forall, lY]
    exact ⟨_, _, ⟨rfl, rfl⟩, ⟨hs, rs⟩, rfl, ⟨by simp only; omega, hb, by simp only; omega, rb⟩, dY⟩
def classB (call : Str → List D → Hs → Res D) : List SS := [(sRet (eTup [(eBin false .Add (eC (.int 1)) (eCall call "_law_draw" [(rd 0), (eC (.int 9))])), (eCall call "_law_pick" [(rd 0), (eList false [(eC (.int 0)), (eC (.int 0)), (eCall call "_law_draw" [(rd 0), (eC (.int 10))])])])]))]
theorem class_run {call : Str → List D → Hs → Res D} (hc : DrawOk call) (hp : PickOk call) {h : Hs} (q : Good h) :
    ∃ d h', finO false h.length (blk (classB call) [some (.loc 0 1)] ([] :: h)) = .ok d h' ∧ ∃ a b : Int, d = .tup [.int a, .int b] ∧ (1 ≤ a ∧ a ≤ 9) ∧ (0 ≤ b ∧ b < 10) ∧ Dn h h' := by
  refine fin_of ?_
  have hc' := hc
  unfold DrawOk at hc'
  have g1 : Good (dn 9 h) := good_dn q
  have g2 : Good (dn 10 (dn 9 h)) := good_dn g1
  have b0 := dv_lo (m := 9) (by decide) h
  have b1 := dv_hi (m := 9) (by decide) h
  have b2 := dv_lo (m := 10) (by decide) (dn 9 h)
  have b3 := dv_hi (m := 10) (by decide) (dn 9 h)
  obtain ⟨v, hv, ev⟩ := pick_ints hp [0, 0, dv 10 (dn 9 h)] (good_cons (t := []) g2) (by simp) (by simp)
  simp only [List.mem_cons, List.not_mem_nil, or_false] at hv
  simp [g2] at ev
  simp (maxDischargeDepth := 30) [classB, hc', q, g1, g2, ev]
  exact ⟨_, _, ⟨rfl, rfl⟩, _, _, ⟨rfl, rfl⟩, ⟨by omega, by omega⟩, ⟨by omega, by omega⟩, (((Dn.refl q).dn q).dn g1).dn g2⟩
def shutB (call : Str → List D → Hs → Res D) : List SS := [(sRet (eBlt false .tuple [(eComp false [2] (wR1 (eBlt false .len [(eIx (rd 1) (eC (.int 1)))])) (pV 2) (some (tCmp (eCall call "_law_draw" [(rd 0), (eC (.int 7))]) [(.Eq, (eC (.int 0)))])) (rd 2))]))]
theorem shut_run {call : Str → List D → Hs → Res D} (hc : DrawOk call) {h : Hs} (q : Good h) (t : Terr) (tl : t.trk.length ≤ 1000) :
    ∃ d h', finO false h.length (blk (shutB call) [some (.loc 0 1), some (encTerr t), none] ([] :: h)) = .ok d h' ∧ ∃ ks : List Int, d = .tup (ks.map .int) ∧ (∀ k ∈ ks, 0 ≤ k ∧ k < t.trk.length) ∧ ks.length ≤ t.trk.length ∧ Dn h h' := by
  refine fin_of ?_
  have hc' := hc
  unfold DrawOk at hc'
  obtain ⟨n, hn⟩ : ∃ n, t.trk.length = n := ⟨_, rfl⟩
  rw [hn] at tl
  have wr1 : ∀ H, walkRng (.int 0) (.int (n : Int)) H = .ok (Wk.of ((List.range n).map fun i : Nat => .int (i : Int))) H := fun H => wr1_nat (by omega) H
  obtain ⟨ys, hX, ec, X, ks, rfl, rfl, hl, hb, dX⟩ := comp_eq (turn := cTurn (pV 2) (some (tCmp (eCall call "_law_draw" [(rd 0), (eC (.int 7))]) [(.Eq, (eC (.int 0)))])) (rd 2) (clear [some (D.loc 0 1), some (encTerr t), none] [2])) (fun i : Nat => D.int (i : Int)) (fun r acc H => ∃ (X : Hs) (ns : List Int), H = [] :: X ∧ acc = ns.map .int ∧ ns.length + r.length ≤ n ∧ (∀ x ∈ ns, 0 ≤ x ∧ x < n) ∧ Dn h X) (R := fun ys H => ∃ (X : Hs) (ns : List Int), H = [] :: X ∧ ys = ns.map .int ∧ ns.length ≤ n ∧ (∀ x ∈ ns, 0 ≤ x ∧ x < n) ∧ Dn h X) (ts0 := List.range n)
    (fun i r acc H hi => by
      rintro ⟨X, ns, rfl, rfl, el, hx, hd⟩
      have gg : Good X := hd.good q
      have hin : i < n := List.mem_range.mp hi
      simp only [List.length_cons] at el
      by_cases h0 : dv 7 X = 0
      · refine ⟨some (.int i), [] :: dn 7 X, by simp (maxDischargeDepth := 30) [cTurn, clear, hc', gg, h0], fun y _ => szlt (by simp; omega), _, ns ++ [(i : Int)], rfl, by simp, by simp; omega, ?_, hd.dn gg⟩
        intro x hx'
        rcases List.mem_append.mp hx' with h | h
        · exact hx x h
        · rw [List.mem_singleton] at h
          omega
      · exact ⟨none, [] :: dn 7 X, by simp (maxDischargeDepth := 30) [cTurn, clear, hc', gg, h0], (fun y e => nomatch e), _, ns, rfl, by simp, by omega, hx, hd.dn gg⟩)
    (fun acc H => by
      rintro ⟨X, ns, rfl, rfl, el, hx, hd⟩
      exact ⟨X, ns, rfl, rfl, by simpa using el, hx, hd⟩) rfl (h := [] :: h) ⟨_, [], rfl, rfl, by simp, by simp, Dn.refl q⟩
  have hls : ks.length ≤ sizeLine := szle (by omega)
  have e1 : ∀ H, ixD (encTerr t) (.int 1) H = .ok (.tup (t.trk.map enc3)) H := fun H => rfl
  simp [shutB, e1, hn, wr1, ec, hls]
  exact ⟨_, _, ⟨rfl, rfl⟩, ks, rfl, hb, hl, dX⟩
/-! ### ends, times, ways -/
section
variable {h : Hs} (t : Terr)
@[simp] theorem ix_terr0 : ixD (encTerr t) (.int 0) h = .ok (.tup (t.hts.map .int)) h := id rfl
@[simp] theorem ix_terr1 : ixD (encTerr t) (.int 1) h = .ok (.tup (t.trk.map enc3)) h := id rfl
@[simp] theorem ok_terr (n) : (encTerr t).ok n = true := by simp [encTerr, D.ok, oks_map n enc3 (fun _ => rfl), oks_map n D.int (fun _ => rfl)]
end
/-- the terrain's facts that matter -/
structure TOk (n : Nat) (t : Terr) : Prop where
  len : t.hts.length = n
  n1 : 1 ≤ n
  n2 : n ≤ 1000
  trl : t.trk.length ≤ 1000
  hts : ∀ x ∈ t.hts, 0 ≤ x ∧ x < 100
  trk : ∀ r ∈ t.trk, (0 ≤ r.1 ∧ r.1 < n) ∧ (0 ≤ r.2.1 ∧ r.2.1 < n) ∧ r.1 ≠ r.2.1 ∧ 1 ≤ r.2.2 ∧ r.2.2 ≤ 99
theorem TerrOk.tok {n k : Nat} {t : Terr} (h : TerrOk n k t) (h1 : 1 ≤ n) (h2 : n ≤ 1000) (hk : k ≤ 1000) : TOk n t := ⟨by have := h.len; omega, h1, h2, by have := h.trl; omega, h.hts, h.trk⟩
def ht (t : Terr) (i : Int) : Int := (t.hts[i.toNat]?).getD 0
def endT (r : I3) (s : Int) : Int := if s = r.1 then r.2.1 else r.1
def timeT (t : Terr) (kd : Int × Int) (r : I3) (s : Int) : Int := r.2.2 * kd.1 + (if ht t (endT r s) - ht t s > 0 then ht t (endT r s) - ht t s else 0) * kd.2
theorem at_ht {n : Nat} {t : Terr} (ok : TOk n t) {i : Int} (h0 : 0 ≤ i) (h1 : i < n) : atI (t.hts.map D.int) i = some (.int (ht t i)) := by
  have := ok.len
  rw [atI_of h0 (by rw [List.length_map]; omega)]
  unfold ht
  simp
  rw [List.getElem?_eq_getElem (by omega)]
  rfl
theorem ht_b {n : Nat} {t : Terr} (ok : TOk n t) (i : Int) : 0 ≤ ht t i ∧ ht t i < 100 := by
  unfold ht
  cases e : t.hts[i.toNat]? with
  | none => simp
  | some x => exact ok.hts x (List.mem_of_getElem? e)
theorem at_trk {t : Terr} {k : Nat} {r : I3} (e : t.trk[k]? = some r) : atI (t.trk.map enc3) (k : Int) = some (enc3 r) := by
  rw [Bk.atI_nat, List.getElem?_map, e]; rfl
/-- the ways out of a point: track and goal -/
def waysT (t : Terr) (shut : List Int) (s : Int) : List (Int × Int) := (t.trk.zipIdx.filter fun p => !(decide ((p.2 : Int) ∈ shut)) && (decide (s = p.1.1) || decide (s = p.1.2.1))).map fun p => ((p.2 : Int), endT p.1 s)
def otherB (call : Str → List D → Hs → Res D) : List SS := [(sAsg (eIx (eIx (rd 0) (eC (.int 1))) (rd 1)) (gN (pT [(pV 3), (pV 4), (pV 5)]))), (sRet (eIf (tCmp (rd 2) [(.Eq, (rd 3))]) (rd 4) (rd 3)))]
theorem other_run {call : Str → List D → Hs → Res D} {h : Hs} {t : Terr} {k : Nat} {r : I3} (e : t.trk[k]? = some r) (s : Int) : finO false h.length (blk (otherB call) [some (encTerr t), some (.int k), some (.int s), none, none, none] ([] :: h)) = .ok (.int (endT r s)) h := by
  refine fin_eq ?_
  have ea := at_trk e
  by_cases hs : s = r.1
  · simp [otherB, ea, enc3, endT, hs]
  · simp [otherB, ea, enc3, endT, hs]
def timeLB (call : Str → List D → Hs → Res D) : List SS := [(sAsg (eIx (eIx (rd 0) (eC (.int 1))) (rd 2)) (gN (pT [(pV 4), (pV 5), (pV 6)]))), (sSet 7 (eBin false .Sub (eBin false .Add (rd 4) (rd 5)) (rd 3))), (sSet 8 (eBin false .Sub (eIx (eIx (rd 0) (eC (.int 0))) (rd 7)) (eIx (eIx (rd 0) (eC (.int 0))) (rd 3)))), (sRet (eBin false .Add (eBin false .Mult (rd 6) (eIx (rd 1) (eC (.int 0)))) (eIf (tCmp (rd 8) [(.Gt, (eC (.int 0)))]) (eBin false .Mult (rd 8) (eIx (rd 1) (eC (.int 1)))) (eC (.int 0)))))]
theorem end_b {n : Nat} {t : Terr} (ok : TOk n t) {k : Nat} {r : I3} (e : t.trk[k]? = some r) {s : Int} (hs : s = r.1 ∨ s = r.2.1) : (0 ≤ endT r s ∧ endT r s < n) ∧ (0 ≤ s ∧ s < n) ∧ r.1 + r.2.1 - s = endT r s ∧ endT r s ≠ s := by
  have := ok.trk r (List.mem_of_getElem? e)
  unfold endT
  split
  · omega
  · omega
theorem timeL_run {call : Str → List D → Hs → Res D} {h : Hs} {n : Nat} {t : Terr} (ok : TOk n t) {kd : Int × Int} (hk : (1 ≤ kd.1 ∧ kd.1 ≤ 9) ∧ 0 ≤ kd.2 ∧ kd.2 < 10) {k : Nat} {r : I3} (e : t.trk[k]? = some r) {s : Int} (hs : s = r.1 ∨ s = r.2.1) : finO false h.length (blk (timeLB call) [some (encTerr t), some (.tup [.int kd.1, .int kd.2]), some (.int k), some (.int s), none, none, none, none, none] ([] :: h)) = .ok (.int (timeT t kd r s)) h := by
  refine fin_eq ?_
  have ea := at_trk e
  obtain ⟨b1, b2, b3, b4⟩ := end_b ok e hs
  have e1 := at_ht ok b1.1 b1.2
  have e2 := at_ht ok b2.1 b2.2
  have hr := (ok.trk r (List.mem_of_getElem? e)).2.2.2
  have m1 : (-18446744073709551616 : Int) < r.2.2 ∧ r.2.2 < 18446744073709551616 := by omega
  have m2 : (-18446744073709551616 : Int) < kd.2 ∧ kd.2 < 18446744073709551616 := by omega
  by_cases hc : 0 < ht t (endT r s) - ht t s
  · simp [timeLB, ea, enc3, b3, e1, e2, m1, m2, timeT]
    have hc' : ht t s < ht t (endT r s) := by omega
    simp [hc', m1, m2]
  · simp [timeLB, ea, enc3, b3, e1, e2, m1, m2, timeT]
    have hc' : ¬ ht t s < ht t (endT r s) := by omega
    simp [hc', m1, m2]
def timePB (call : Str → List D → Hs → Res D) : List SS := [(sAsg (rd 0) (gN (pT [(pV 4), (pV 5)]))), (sAsg (rd 1) (gN (pT [(pV 6), (pV 7)]))), (sSet 8 (eBlt false .max [(eC (.int 0)), (eBin false .Sub (eIx (rd 4) (eCall call "other_end" [(rd 0), (rd 2), (rd 3)])) (eIx (rd 4) (rd 3)))])), (sRet (eBin false .Add (eBin false .Mult (eIx (eIx (rd 5) (rd 2)) (eC (.int 2))) (rd 6)) (eBin false .Mult (rd 8) (rd 7))))]
theorem timeP_run {call : Str → List D → Hs → Res D} {h : Hs} {n : Nat} {t : Terr} (ok : TOk n t) {kd : Int × Int} (hk : (1 ≤ kd.1 ∧ kd.1 ≤ 9) ∧ 0 ≤ kd.2 ∧ kd.2 < 10) {k : Nat} {r : I3} (e : t.trk[k]? = some r) {s : Int} (hs : s = r.1 ∨ s = r.2.1) (ho : ∀ H, call "other_end" [encTerr t, .int k, .int s] H = .ok (.int (endT r s)) H) : finO false h.length (blk (timePB call) [some (encTerr t), some (.tup [.int kd.1, .int kd.2]), some (.int k), some (.int s), none, none, none, none, none] ([] :: h)) = .ok (.int (timeT t kd r s)) h := by
  refine fin_eq ?_
  have ea := at_trk e
  obtain ⟨b1, b2, b3, b4⟩ := end_b ok e hs
  have e1 := at_ht ok b1.1 b1.2
  have e2 := at_ht ok b2.1 b2.2
  have hr := (ok.trk r (List.mem_of_getElem? e)).2.2.2
  have m1 : (-18446744073709551616 : Int) < r.2.2 ∧ r.2.2 < 18446744073709551616 := by omega
  have m2 : (-18446744073709551616 : Int) < kd.2 ∧ kd.2 < 18446744073709551616 := by omega
  have eu : ∀ H S, pT [pV 4, pV 5] (encTerr t) H S = pAll H [pV 4, pV 5] [.tup (t.hts.map .int), .tup (t.trk.map enc3)] S := fun _ _ => rfl
  simp [timePB, eu, ho, ea, enc3, e1, e2, m1, m2, timeT]
/-- the ways out among the first i tracks -/
def waysI (t : Terr) (shut : List Int) (s : Int) (i : Nat) : List (Int × Int) := ((t.trk.zipIdx.take i).filter fun p => !(decide ((p.2 : Int) ∈ shut)) && (decide (s = p.1.1) || decide (s = p.1.2.1))).map fun p => ((p.2 : Int), endT p.1 s)
theorem waysI_succ {t : Terr} {shut : List Int} {s : Int} {i : Nat} {r : I3} (e : t.trk[i]? = some r) : waysI t shut s (i + 1) = waysI t shut s i ++ (if !(decide ((i : Int) ∈ shut)) && (decide (s = r.1) || decide (s = r.2.1)) then [((i : Int), endT r s)] else []) := by
  unfold waysI
  rw [List.take_add_one, List.getElem?_zipIdx, e]
  simp only [Option.map_some, Option.toList_some, List.filter_append, List.map_append, Nat.zero_add]
  congr 1
  cases h : (!(decide ((i : Int) ∈ shut)) && (decide (s = r.1) || decide (s = r.2.1)))
  · simp [h]
  · simp [h]
theorem waysI_all (t : Terr) (shut : List Int) (s : Int) : waysI t shut s t.trk.length = waysT t shut s := by
  unfold waysI waysT
  rw [List.take_of_length_le (by simp)]
theorem waysI_len (t : Terr) (shut : List Int) (s : Int) (i : Nat) : (waysI t shut s i).length ≤ i := by
  unfold waysI
  rw [List.length_map]
  exact Nat.le_trans (List.length_filter_le _ _) (by simp; omega)
theorem pus_ints (n : Nat) (ns : List Int) : D.pus n (ns.map .int) = true := pus_map n _ (fun _ => by cases n <;> rfl) ns
open Classical in
theorem in_ints_t {h : Hs} (ns : List Int) (i : Int) : inD (.int i) (.tup (ns.map .int)) h = some (decide (i ∈ ns)) := by
  rw [inD_tup rfl rfl (pus_ints 59 ns) (fun z e => by cases e)]
  congr 1
  rw [Bool.eq_iff_iff, decide_eq_true_iff, decide_eq_true_iff, List.mem_map]
  constructor
  · rintro ⟨j, hj, e⟩
    cases e
    exact hj
  · exact fun h => ⟨i, h, rfl⟩
theorem cmp_ni_ints {h : Hs} (ns : List Int) (i : Int) : cmpR .NotIn (.int i) (.tup (ns.map .int)) h = .ok (.bl (!decide (i ∈ ns))) h := cmp_ni_of (in_ints_t ns i)
theorem cmp_in_ints {h : Hs} (ns : List Int) (i : Int) : cmpR .In (.int i) (.tup (ns.map .int)) h = .ok (.bl (decide (i ∈ ns))) h := cmp_in_of (in_ints_t ns i)
open Classical in
theorem in_ints_l {h : Hs} {d : D} (ns : List Int) (ho : d.own h = some (ns.map .int)) (i : Int) : inD (.int i) d h = some (decide (i ∈ ns)) := by
  rw [inD_own ho rfl rfl (pus_ints 59 ns)]
  congr 1
  rw [Bool.eq_iff_iff, decide_eq_true_iff, decide_eq_true_iff, List.mem_map]
  constructor
  · rintro ⟨j, hj, e⟩
    cases e
    exact hj
  · exact fun h => ⟨i, h, rfl⟩
def waysLB_b0 (call : Str → List D → Hs → Res D) : List SS := [(sAsg (eIx (eIx (rd 0) (eC (.int 1))) (rd 4)) (gN (pT [(pV 5), (pV 6), (pV 7)]))), (sIf (tBool .And [(tCmp (rd 4) [(.NotIn, (rd 1))]), (tCmp (rd 2) [(.In, (eList false [(rd 5), (rd 6)]))])]) [(sDrop (eMth .append (rd 3) [(eTup [(rd 4), (eBin false .Sub (eBin false .Add (rd 5) (rd 6)) (rd 2))])]))] [])]
def waysLB (call : Str → List D → Hs → Res D) : List SS := [(sSet 3 (eList true [])), (sFor [] (wR1 (eBlt false .len [(eIx (rd 0) (eC (.int 1)))])) (gN (pV 4)) (waysLB_b0 call)), (sRet (rdF 3))]
theorem waysL_run {call : Str → List D → Hs → Res D} {h : Hs} {n : Nat} {t : Terr} (ok : TOk n t) (shut : List Int) (s : Int) : finO false h.length (blk (waysLB call) [some (encTerr t), some (.tup (shut.map .int)), some (.int s), none, none, none, none, none] ([] :: h)) = .ok (.lst ((waysT t shut s).map enc2)) h := by
  refine fin_eq ?_
  obtain ⟨m, hm⟩ : ∃ m, t.trk.length = m := ⟨_, rfl⟩
  have ml := ok.trl
  rw [hm] at ml
  have wr1 : ∀ H, walkRng (.int 0) (.int (m : Int)) H = .ok (Wk.of ((List.range m).map fun i : Nat => .int (i : Int))) H := fun H => wr1_nat (by omega) H
  simp [waysLB, hm, wr1]
  refine sat_seq (for_rng (fun i : Nat => D.int (i : Int)) m (fun i s' H => ∃ x4 x5 x6 x7, s' = [some (encTerr t), some (.tup (shut.map .int)), some (.int s), some (.loc h.length 0), x4, x5, x6, x7] ∧ H = [.lst ((waysI t shut s i).map enc2)] :: h) ?_ ?_ ?_)
  · exact ⟨none, none, none, none, rfl, rfl⟩
  · rintro i s' H hi ⟨x4, x5, x6, x7, rfl, rfl⟩
    have e : t.trk[i]? = some (t.trk[i]'(by omega)) := List.getElem?_eq_getElem _
    generalize (t.trk[i]'(by omega)) = r at e
    have ea := at_trk e
    have wl := waysI_len t shut s i
    have wl2 : (waysI t shut s i).length < sizeLine := szlt (by omega)
    have hs := waysI_succ (shut := shut) (s := s) e
    have hin := fun H => cmp_in_of (in_ints_l (h := H) (d := .lst ([r.1, r.2.1].map .int)) [r.1, r.2.1] rfl s)
    simp at hin
    by_cases c1 : (i : Int) ∈ shut
    · simp [c1] at hs
      simp [waysLB_b0, ea, enc3, cmp_ni_ints, c1, nextP, clear, hs]
    · by_cases c2 : s = r.1 ∨ s = r.2.1
      · have hend := (end_b ok e c2).2.2.1
        simp [c1, c2] at hs
        simp [waysLB_b0, ea, enc3, cmp_ni_ints, c1, hin, c2, hend, wl2, nextP, clear, hs, enc2]
      · simp [c1, c2] at hs
        rw [not_or] at c2
        simp [waysLB_b0, ea, enc3, cmp_ni_ints, c1, hin, c2.1, c2.2, nextP, clear, hs]
  · rintro s' H ⟨x4, x5, x6, x7, rfl, rfl⟩
    rw [← hm, waysI_all]
    simp
def waysPB_b0 (call : Str → List D → Hs → Res D) : List SS := [(sIf (tBool .And [(tCmp (rd 4) [(.NotIn, (rd 1))]), (tCmp (rd 2) [(.In, (eTup [(rd 5), (rd 6)]))])]) [(sDrop (eMth .append (rd 3) [(eTup [(rd 4), (eCall call "other_end" [(rd 0), (rd 4), (rd 2)])])]))] [])]
def waysPB (call : Str → List D → Hs → Res D) : List SS := [(sSet 3 (eList true [])), (sFor [] (wEnm (eIx (rd 0) (eC (.int 1)))) (gN (pT [(pV 4), (pT [(pV 5), (pV 6), (pV 7)])])) (waysPB_b0 call)), (sRet (rdF 3))]
theorem waysP_run {call : Str → List D → Hs → Res D} {h : Hs} {n : Nat} {t : Terr} (ok : TOk n t) (shut : List Int) (s : Int) (ho : ∀ k r H, t.trk[k]? = some r → call "other_end" [encTerr t, .int (k : Nat), .int s] H = .ok (.int (endT r s)) H) : finO false h.length (blk (waysPB call) [some (encTerr t), some (.tup (shut.map .int)), some (.int s), none, none, none, none, none] ([] :: h)) = .ok (.lst ((waysT t shut s).map enc2)) h := by
  refine fin_eq ?_
  have ml := ok.trl
  have hx : (t.trk.map enc3).zipIdx.map (fun p => D.tup [.int (p.2 : Nat), p.1]) = (List.range t.trk.length).map (fun i : Nat => D.tup [.int (i : Nat), enc3 (t.trk.getD i (0, 0, 0))]) := by
    refine List.ext_getElem (by simp) fun i h1 h2 => ?_
    have : i < t.trk.length := by simpa using h1
    simp [this]
  simp [waysPB, walkEnm, D.seq, hx]
  refine sat_seq (for_rng (fun i : Nat => D.tup [.int (i : Nat), enc3 (t.trk.getD i (0, 0, 0))]) t.trk.length (fun i s' H => ∃ x4 x5 x6 x7, s' = [some (encTerr t), some (.tup (shut.map .int)), some (.int s), some (.loc h.length 0), x4, x5, x6, x7] ∧ H = [.lst ((waysI t shut s i).map enc2)] :: h) ?_ ?_ ?_)
  · exact ⟨none, none, none, none, rfl, rfl⟩
  · rintro i s' H hi ⟨x4, x5, x6, x7, rfl, rfl⟩
    have e : t.trk[i]? = some (t.trk[i]'(by omega)) := List.getElem?_eq_getElem _
    have eg : t.trk.getD i (0, 0, 0) = t.trk[i]'(by omega) := by simp [hi]
    rw [eg]
    generalize (t.trk[i]'(by omega)) = r at e
    have wl := waysI_len t shut s i
    have wl2 : (waysI t shut s i).length < sizeLine := szlt (by omega)
    have hs := waysI_succ (shut := shut) (s := s) e
    have hin := fun H => cmp_in_ints (h := H) [r.1, r.2.1] s
    simp at hin
    have hoi := fun H => ho i r H e
    by_cases c1 : (i : Int) ∈ shut
    · simp [c1] at hs
      simp [waysPB_b0, enc3, cmp_ni_ints, c1, nextP, clear, hs]
    · by_cases c2 : s = r.1 ∨ s = r.2.1
      · simp [c1, c2] at hs
        simp [waysPB_b0, enc3, cmp_ni_ints, c1, hin, c2, hoi, wl2, nextP, clear, hs, enc2]
      · simp [c1, c2] at hs
        rw [not_or] at c2
        simp [waysPB_b0, enc3, cmp_ni_ints, c1, hin, c2.1, c2.2, nextP, clear, hs]
  · rintro s' H ⟨x4, x5, x6, x7, rfl, rfl⟩
    rw [waysI_all]
    simp
end Bk

/-! BkLoop: loops whose aims simp does not see into. -/
namespace Bk
open PySem PySem.Spec PyProof.Rows L2
@[simp] theorem seq_seq (o : Out) (f g : SS) : (o.seq f).seq g = o.seq fun s h => (f s h).seq g := by cases o <;> rfl
/-- what the end of a turn has to give, Q unseen -/
structure Nxt (cl : List Nat) (I : Sl → Hs → Prop) (f : SS) (P Q : Po) : Prop where
  n : ∀ {s h}, I (clear s cl) h → Q.n s h
  c : ∀ {s h}, I (clear s cl) h → Q.c s h
  b : ∀ {s h}, (f (clear s cl) h).sat P → Q.b s h
  r : ∀ {d h}, P.r d h → Q.r d h
  e : ∀ {x s h}, P.e x s h → Q.e x s h
theorem nxt_of {o : Out} {cl} {I : Sl → Hs → Prop} {f : SS} {P : Po} (q : ∀ Q, Nxt cl I f P Q → o.sat Q) : o.sat (nextP cl I { P with n := fun s h => (f s h).sat P }) := q _ ⟨fun h => h, fun h => h, fun h => h, fun h => h, fun h => h⟩
theorem for_seq {T : Type} {body : D → Sl → Hs → Out} {cl : List Nat} {f : SS} {P : Po} (enc : T → D) (I : List T → Sl → Hs → Prop) {xs : List D} {ts : List T} (hx : xs = ts.map enc) {s : Sl} {h : Hs} (h0 : I ts s h)
    (step : ∀ t r s h, t ∈ ts → I (t :: r) s h → ∀ Q, Nxt cl (I r) f P Q → (body (enc t) s h).sat Q) (fin : ∀ s h, I [] s h → (f s h).sat P) : ((forL (Wk.of xs) body cl (Wk.of xs).most 0 s h).seq f).sat P :=
  sat_seq (for_sat enc I hx h0 (fun t r s h ht q => nxt_of (step t r s h ht q)) fin)
theorem rng_seq {body : D → Sl → Hs → Out} {cl : List Nat} {f : SS} {P : Po} (g : Nat → D) (k : Nat) (I : Nat → Sl → Hs → Prop) {s : Sl} {h : Hs} (h0 : I 0 s h)
    (step : ∀ i s h, i < k → I i s h → ∀ Q, Nxt cl (I (i + 1)) f P Q → (body (g i) s h).sat Q) (fin : ∀ s h, I k s h → (f s h).sat P) : ((forL (Wk.of ((List.range k).map g)) body cl (Wk.of ((List.range k).map g)).most 0 s h).seq f).sat P :=
  sat_seq (for_rng g k I h0 (fun i s h hi q => nxt_of (step i s h hi q)) fin)
theorem w_seq {T : Type} {body : D → Sl → Hs → Out} {cl : List Nat} {f : SS} {P : Po} (enc : T → D) (I : List T → Sl → Hs → Prop) {w : Wk} {xs : List D} {ts : List T} (hx : xs = ts.map enc) (hm : w.most = xs.length) (hw : ∀ r s h, I r s h → ∀ i, w.nxt i h = some xs[i]?) {s : Sl} {h : Hs} (h0 : I ts s h)
    (step : ∀ t r s h, t ∈ ts → I (t :: r) s h → ∀ Q, Nxt cl (I r) f P Q → (body (enc t) s h).sat Q) (fin : ∀ s h, I [] s h → (f s h).sat P) : ((forL w body cl w.most 0 s h).seq f).sat P :=
  sat_seq (for_w enc I hx hm hw h0 (fun t r s h ht q => nxt_of (step t r s h ht q)) fin)
theorem while_seq {test : TT} {body : SS} {cl : List Nat} {f : SS} {P : Po} (I : Nat → Sl → Hs → Prop) (n m : Nat) {s : Sl} {h : Hs} (nm : n < m) (h0 : I n s h)
    (step : ∀ n s h, I n s h → ∃ b h1, test s h = .ok b h1 ∧ (b = false → (f s h1).sat P) ∧ (b = true → ∃ k, n = k + 1 ∧ ∀ Q, Nxt cl (I k) f P Q → (body s h1).sat Q)) : ((whileL test body cl m s h).seq f).sat P :=
  sat_seq (while_sat I (fun n s h q => by
    obtain ⟨b, h1, e, q1, q2⟩ := step n s h q
    refine ⟨b, h1, e, q1, fun hb => ?_⟩
    obtain ⟨k, hk, q3⟩ := q2 hb
    exact ⟨k, hk, nxt_of q3⟩) n m s h nm h0)
/-- what the end of a def has to give, Q unseen -/
structure Ret (n : Nat) (R : D → Hs → Prop) (Q : Po) : Prop where
  r : ∀ {t d h}, d.ok n = true → R d h → Q.r d (t :: h)
  n : ∀ {t s h}, R .non h → Q.n s (t :: h)
theorem fin_o {n : Nat} {o : Out} (R : D → Hs → Prop) (q : ∀ Q, Ret n R Q → o.sat Q) : ∃ d h', finO false n o = .ok d h' ∧ R d h' :=
  fin_of (q _ ⟨fun a b => ⟨_, _, rfl, a, b⟩, fun b => ⟨_, _, rfl, b⟩⟩)
theorem fin_e {n : Nat} {o : Out} {d0 : D} {h0 : Hs} (q : ∀ Q, Ret n (fun d h => d = d0 ∧ h = h0) Q → o.sat Q) : finO false n o = .ok d0 h0 := by
  obtain ⟨d, h, e, rfl, rfl⟩ := fin_o _ q
  exact e
/-- the end of a def that may raise: the whole answer R -/
structure RetR (lv : Nat) (R : Res D) (Q : Po) : Prop where
  r : ∀ {t d h}, d.ok lv = true → R = .ok d h → Q.r d (t :: h)
  n : ∀ {t s h}, R = .ok .non h → Q.n s (t :: h)
  e : ∀ {t x s h}, (x.fs.all fun p => p.2.ok lv) = true → R = .exc x h → Q.e x s (t :: h)
theorem fin_r {n : Nat} {o : Out} {R : Res D} (q : ∀ Q, RetR n R Q → o.sat Q) : finO false n o = R := by
  have p := (q { n := fun _ h => ∃ t h', h = t :: h' ∧ R = .ok .non h', r := fun d h => ∃ t h', h = t :: h' ∧ d.ok n = true ∧ R = .ok d h', e := fun x _ h => ∃ t h', h = t :: h' ∧ (x.fs.all fun p => p.2.ok n) = true ∧ R = .exc x h' }
    ⟨fun a b => ⟨_, _, rfl, a, b⟩, fun b => ⟨_, _, rfl, b⟩, fun a b => ⟨_, _, rfl, a, b⟩⟩).out
  cases o with
  | next s h =>
    obtain ⟨t, h', rfl, e⟩ := p
    exact e.symm
  | ret d h =>
    obtain ⟨t, h', rfl, k, e⟩ := p
    show (if d.ok n = true then _ else _) = _
    rw [if_pos k, e]
  | exc x s h =>
    obtain ⟨t, h', rfl, k, e⟩ := p
    show (if (x.fs.all fun p => p.2.ok n) = true then _ else _) = _
    rw [if_pos k, e]
  | _ => exact p.elim
@[simp] theorem chain2 (a b : Bool) (h : Hs) : chainK false (.bl a) h (fun h3 => Res.ok (.bl b) h3) = .ok (.bl (a && b)) h := by cases a <;> rfl
/-- a comprehension that looks at its items alone -/
theorem comp_map {T : Type} {turn : D → Hs → Res (Option D)} (enc f : T → D) {xs : List D} {ts : List T} {h : Hs} (hx : xs = ts.map enc) (hl : ts.length ≤ 1000000) (step : ∀ t ∈ ts, turn (enc t) h = .ok (some (f t)) h) : compL (Wk.of xs) turn (Wk.of xs).most 0 [] h = .ok (ts.map f) h := by
  obtain ⟨ys, h', e, rfl, rfl⟩ := comp_eq (turn := turn) enc (fun r acc H => H = h ∧ acc ++ r.map f = ts.map f) (R := fun ys H => ys = ts.map f ∧ H = h) (ts0 := ts)
    (fun t r acc H ht => by
      rintro ⟨rfl, ea⟩
      have hl2 := congrArg List.length ea
      simp at hl2
      refine ⟨_, _, step t ht, fun y _ => szlt (by omega), rfl, ?_⟩
      rw [← ea]
      simp)
    (fun acc H => by
      rintro ⟨rfl, ea⟩
      exact ⟨by simpa using ea, rfl⟩) hx (h := h) ⟨rfl, by simp⟩
  exact e
/-- a comprehension with a test, that looks at its items alone -/
theorem comp_fm {T : Type} {turn : D → Hs → Res (Option D)} (enc f : T → D) (p : T → Bool) {xs : List D} {ts : List T} {h : Hs} (hx : xs = ts.map enc) (hl : ts.length ≤ 1000000) (step : ∀ t ∈ ts, turn (enc t) h = .ok (if p t then some (f t) else none) h) : compL (Wk.of xs) turn (Wk.of xs).most 0 [] h = .ok ((ts.filter p).map f) h := by
  obtain ⟨ys, h', e, rfl, rfl⟩ := comp_eq (turn := turn) enc (fun r acc H => H = h ∧ acc ++ (r.filter p).map f = (ts.filter p).map f) (R := fun ys H => ys = (ts.filter p).map f ∧ H = h) (ts0 := ts)
    (fun t r acc H ht => by
      rintro ⟨rfl, ea⟩
      have hl2 := congrArg List.length ea
      have hl3 := List.length_filter_le p ts
      simp only [List.length_append, List.length_map] at hl2
      refine ⟨_, _, step t ht, fun y hy => szlt (by omega), rfl, ?_⟩
      rw [← ea]
      cases hp : p t <;> simp [hp])
    (fun acc H => by
      rintro ⟨rfl, ea⟩
      exact ⟨by simpa using ea, rfl⟩) hx (h := h) ⟨rfl, by simp⟩
  exact e
@[simp] theorem all_lst (b xs) (h : Hs) : bltD b .all [.lst xs] h = match bools xs with | some bs => .ok (.bl (bs.all id)) h | none => .bad := id rfl
@[simp] theorem any_lst (b xs) (h : Hs) : bltD b .any [.lst xs] h = match bools xs with | some bs => .ok (.bl (bs.any id)) h | none => .bad := id rfl
@[simp] theorem bools_nil : bools [] = some [] := id rfl
@[simp] theorem bools_cons (a r) : bools (.bl a :: r) = (bools r).map fun bs => a :: bs := id rfl
theorem bools_map {T : Type} (f : T → Bool) : ∀ ts : List T, bools (ts.map fun t => D.bl (f t)) = some (ts.map f)
  | [] => rfl
  | t :: ts => by
    rw [List.map_cons, bools_cons, bools_map f ts]
    rfl
/-! ### draws, told one by one -/
theorem draw_at {call : Str → List D → Hs → Res D} (hc : DrawOk call) {X : Hs} (q : Good X) {m : Int} (hm : 0 < m) (hm2 : m < 1073741824) :
    ∃ (v : Int) (X' : Hs), (∀ t, call "_law_draw" [.loc 0 1, .int m] (t :: X) = .ok (.int v) (t :: X')) ∧ 0 ≤ v ∧ v < m ∧ Good X' ∧ X'.length = X.length ∧ Dn X X' := by
  refine ⟨dv m X, dn m X, fun t => ?_, dv_lo hm X, dv_hi hm X, good_dn q, dn_len m X, (Dn.refl q).dn q⟩
  have := hc m (t :: X) (good_cons q) hm hm2
  rwa [dv_cons q, dn_cons q] at this
theorem pick_at {call : Str → List D → Hs → Res D} (hp : PickOk call) {X : Hs} (q : Good X) {xs : List D} (h0 : xs ≠ []) (hl : xs.length ≤ 1000000) (ho : ∀ x ∈ xs, ∀ n, x.ok n = true) :
    ∃ (v : D) (X' : Hs), (∀ t, call "_law_pick" [.loc 0 1, .lst xs] (t :: X) = .ok v (t :: X')) ∧ v ∈ xs ∧ Good X' ∧ X'.length = X.length ∧ Dn X X' := by
  have key : ∀ t, ∃ (v : D) (j : Nat), xs[j]? = some v ∧ (j : Int) = dv xs.length X ∧ call "_law_pick" [.loc 0 1, .lst xs] (t :: X) = .ok v (t :: dn xs.length X) := fun t => by
    obtain ⟨v, j, e1, e2, e3⟩ := hp xs (t :: X) (good_cons q) h0 hl (fun x hx => ho x hx _)
    rw [dv_cons q] at e2
    rw [dn_cons q] at e3
    exact ⟨v, j, e1, e2, e3⟩
  obtain ⟨v, j, e1, e2, _⟩ := key []
  refine ⟨v, dn xs.length X, fun t => ?_, List.mem_of_getElem? e1, good_dn q, dn_len _ X, (Dn.refl q).dn q⟩
  obtain ⟨v', j', f1, f2, f3⟩ := key t
  have : j' = j := by omega
  subst this
  rw [e1] at f1
  cases f1
  exact f3
theorem good_LH {st : Dr} (hl : st.1.length ≤ 1000) (r : List Ob) : Good [stA st :: stB st :: r] := HasSt.good (st := st) ⟨rfl, rfl, hl⟩
theorem dn_LH {st : Dr} {r : List Ob} {h' : Hs} (d : Dn [stA st :: stB st :: r] h') : ∃ st' : Dr, st'.1.length ≤ 1000 ∧ h' = [stA st' :: stB st' :: r] := by
  obtain ⟨st', hl, rfl⟩ := d
  exact ⟨st', hl, rfl⟩
/-- a draw in the law itself -/
theorem draw_L {call : Str → List D → Hs → Res D} (hc : DrawOk call) {st : Dr} (hl : st.1.length ≤ 1000) (r : List Ob) {m : Int} (hm : 0 < m) (hm2 : m < 1073741824) :
    ∃ (v : Int) (st' : Dr), call "_law_draw" [.loc 0 1, .int m] [stA st :: stB st :: r] = .ok (.int v) [stA st' :: stB st' :: r] ∧ 0 ≤ v ∧ v < m ∧ st'.1.length ≤ 1000 := by
  have g := good_LH hl r
  have e := hc m _ g hm hm2
  obtain ⟨st', h1, h2⟩ := dn_LH ((Dn.refl g).dn (m := m) g)
  rw [h2] at e
  exact ⟨_, st', e, dv_lo hm _, dv_hi hm _, h1⟩
theorem pick_L {call : Str → List D → Hs → Res D} (hp : PickOk call) {st : Dr} (hl : st.1.length ≤ 1000) (r : List Ob) {xs : List D} (h0 : xs ≠ []) (hx : xs.length ≤ 1000000) (ho : ∀ x ∈ xs, x.ok 1 = true) :
    ∃ (v : D) (st' : Dr), call "_law_pick" [.loc 0 1, .lst xs] [stA st :: stB st :: r] = .ok v [stA st' :: stB st' :: r] ∧ v ∈ xs ∧ st'.1.length ≤ 1000 := by
  have g := good_LH hl r
  obtain ⟨v, j, e1, _, e2⟩ := hp xs _ g h0 hx ho
  obtain ⟨st', h1, h2⟩ := dn_LH ((Dn.refl g).dn (m := xs.length) g)
  rw [h2] at e2
  exact ⟨v, st', e2, List.mem_of_getElem? e1, h1⟩
theorem list_own {d : D} {h : Hs} {xs : List D} (ho : d.own h = some xs) (b : Bool) : bltD b .list [d] h = mkL b xs h := by
  cases d with
  | lst ys => cases ho; rfl
  | loc l k =>
    have e : cur h l k = some xs := ho
    rw [list_loc]
    simp only [e]
  | _ => cases ho
theorem len_own {d : D} {h : Hs} {xs : List D} (ho : d.own h = some xs) (b : Bool) : bltD b .len [d] h = .ok (.int xs.length) h := by
  cases d with
  | lst ys => cases ho; rfl
  | loc l k =>
    have e : cur h l k = some xs := ho
    rw [len_loc']
    simp only [e]
  | _ => cases ho
theorem blk_app (xs ys : List SS) (s : Sl) (h : Hs) : blk (xs ++ ys) s h = (blk xs s h).seq (blk ys) := by
  induction xs generalizing s h with
  | nil => rfl
  | cons x xs ih =>
    show (x s h).seq (blk (xs ++ ys)) = ((x s h).seq (blk xs)).seq (blk ys)
    cases x s h with
    | next s h => exact ih s h
    | _ => rfl
theorem blk_split (k : Nat) (l : List SS) (s : Sl) (h : Hs) : blk l s h = (blk (l.take k) s h).seq (blk (l.drop k)) := by rw [← blk_app, List.take_append_drop]
theorem pop_loc {h : Hs} {l k x xs} {i : Int} {j : Nat} (e : gt h l k = some (.lst xs)) (hi : i = (j : Int)) (hb : j < 1000000) (hx : xs[j]? = some x) (ho : D.oks (l + 1) (xs.eraseIdx j) = true) : mthD .pop (.loc l k) [.int i] h = .ok x (pt h l k (.lst (xs.eraseIdx j))) := by
  subst hi
  have hj : j < xs.length := (List.getElem?_eq_some_iff.mp hx).1
  unfold mthD
  simp only [cur_of e]
  rw [if_pos (by omega)]
  have : seqIndex? (j : Int) xs.length = some j := (ixN_seq (by unfold ixN; rw [if_pos (by omega), if_pos (by omega)]; simp)).1
  simp only [this, hx, wr, Ob.ok]
  exact if_pos ho
/-! ### == of lists and texts -/
theorem map_inj {T U : Type} {f : T → U} (hi : ∀ a b, f a = f b → a = b) : ∀ {xs ys : List T}, xs.map f = ys.map f → xs = ys
  | [], [], _ => rfl
  | [], _ :: _, e => by cases e
  | _ :: _, [], e => by cases e
  | a :: xs, b :: ys, e => by
    rw [List.map_cons, List.map_cons, List.cons.injEq] at e
    rw [hi _ _ e.1, map_inj hi e.2]
theorem pu_lst (n : Nat) (xs : List D) : D.pu (n + 1) (.lst xs) = D.pus n xs := by rw [D.pu]
theorem pu_tup (n : Nat) (xs : List D) : D.pu (n + 1) (.tup xs) = D.pus n xs := by rw [D.pu]
theorem pu_str (n : Nat) (z : Str) : D.pu n (.str z) = PyData.strOk z := by cases n <;> rw [D.pu]
open Classical in
/-- == of two lists of plain data -/
theorem eqD_lsts {T : Type} (enc : T → D) (hi : ∀ a b, enc a = enc b → a = b) (hp : ∀ a, (enc a).pu 59 = true) (xs ys : List T) (h : Hs) : eqD (.lst (xs.map enc)) (.lst (ys.map enc)) h = some (decide (xs = ys)) := by
  rw [eqD_pu (x := .lst (xs.map enc)) (y := .lst (ys.map enc)) (h := h) ((pu_lst 59 _).trans (pus_map 59 _ hp xs)) ((pu_lst 59 _).trans (pus_map 59 _ hp ys))]
  congr 1
  rw [Bool.eq_iff_iff, decide_eq_true_iff, decide_eq_true_iff, now_lst, now_lst, D.lst.injEq]
  exact ⟨fun e => map_inj hi e, fun e => by rw [e]⟩
open Classical in
theorem eqD_tups {T : Type} (enc : T → D) (hi : ∀ a b, enc a = enc b → a = b) (hp : ∀ a, (enc a).pu 59 = true) (xs ys : List T) (h : Hs) : eqD (.tup (xs.map enc)) (.tup (ys.map enc)) h = some (decide (xs = ys)) := by
  rw [eqD_pu (x := .tup (xs.map enc)) (y := .tup (ys.map enc)) (h := h) ((pu_tup 59 _).trans (pus_map 59 _ hp xs)) ((pu_tup 59 _).trans (pus_map 59 _ hp ys))]
  congr 1
  rw [Bool.eq_iff_iff, decide_eq_true_iff, decide_eq_true_iff, now_tup, now_tup, D.tup.injEq]
  exact ⟨fun e => map_inj hi e, fun e => by rw [e]⟩
open Classical in
theorem eqD_strs {x y : Str} (hx : PyData.strOk x = true) (hy : PyData.strOk y = true) (h : Hs) : eqD (.str x) (.str y) h = some (decide (x = y)) := by
  rw [eqD_pu (x := .str x) (y := .str y) (h := h) ((pu_str 60 _).trans hx) ((pu_str 60 _).trans hy)]
  congr 1
  rw [Bool.eq_iff_iff, decide_eq_true_iff, decide_eq_true_iff, now_str, now_str, D.str.injEq]
theorem repr_bl (b own : Bool) (h : Hs) : bltD own .repr [.bl b] h = .ok (.str (if b then "True" else "False")) h := by cases b <;> rfl
/-- repr(a) != repr(a) of truths -/
theorem repr_ne (b : Bool) (h : Hs) : cmpR .NotEq (.str (if b then "True" else "False")) (.str (if b then "True" else "False")) h = .ok (.bl false) h := by
  cases b
  · have := cmp_ne_of (eqD_strs (x := "False") (y := "False") (by decide +kernel) (by decide +kernel) h)
    simpa using this
  · have := cmp_ne_of (eqD_strs (x := "True") (y := "True") (by decide +kernel) (by decide +kernel) h)
    simpa using this
/-! ### cuts and sums of lists -/
section
variable {h : Hs}
@[simp] theorem sl_loc (b l k lo hi) : slD b (.loc l k) lo hi h = match cur h l k with | some xs => mkL b (cutD xs lo hi) h | none => .bad := id rfl
@[simp] theorem sl_lst (b xs lo hi) : slD b (.lst xs) lo hi h = mkL b (cutD xs lo hi) h := id rfl
@[simp] theorem sl_tup (b xs lo hi) : slD b (.tup xs) lo hi h = .ok (.tup (cutD xs lo hi)) h := id rfl
@[simp] theorem add_tup (b xs ys) : binD b .Add (.tup xs) (.tup ys) h = if xs.length + ys.length ≤ sizeLine then .ok (.tup (xs ++ ys)) h else .bad := id rfl
@[simp] theorem add_ll (b xs ys) : binD b .Add (.lst xs) (.lst ys) h = if xs.length + ys.length ≤ sizeLine then mkL b (xs ++ ys) h else .bad := id rfl
@[simp] theorem add_ol (b l k ys) : binD b .Add (.loc l k) (.lst ys) h = match cur h l k with | some xs => if xs.length + ys.length ≤ sizeLine then mkL b (xs ++ ys) h else .bad | none => .bad := by
  unfold binD
  simp only [D.own]
  cases e : cur h l k <;> simp only [e]
theorem cut_from (xs : List D) (i : Nat) : cutD xs (some (i : Int)) none = xs.drop i := by
  unfold cutD
  rw [HT.sIx_none, HT.sIx_nat]
  by_cases hi : i ≤ xs.length
  · rw [Nat.min_eq_left hi]
    exact List.take_of_length_le (by simp)
  · rw [Nat.min_eq_right (by omega), List.drop_eq_nil_of_le (by omega), List.drop_eq_nil_of_le (by omega)]
    simp
theorem cut_to (xs : List D) (i : Nat) : cutD xs none (some (i : Int)) = xs.take i := by
  unfold cutD
  rw [HT.sIx_none, HT.sIx_nat]
  by_cases hi : i ≤ xs.length
  · rw [Nat.min_eq_left hi]
    simp
  · rw [Nat.min_eq_right (by omega), List.take_of_length_le (l := xs) (i := i) (by omega)]
    simp
@[simp] theorem cut_one (xs : List D) : cutD xs (some 1) none = xs.drop 1 := cut_from xs 1
@[simp] theorem cut_all (xs : List D) : cutD xs none none = xs := by
  unfold cutD
  rw [HT.sIx_none, HT.sIx_none]
  simp
end
end Bk

/-! BkDr2: the second kind of draws: _law_refill, _law_draw(state, script, size), state = [0, 0]. -/
namespace Bk
open PySem PySem.Spec PyProof.Rows L2
def stS (st : Int × Int) : Ob := .lst [.int st.1, .int st.2]
/-- the state of draws lies in the heap -/
def GoodS (h : Hs) : Prop := ∃ st, gt h 0 0 = some (stS st)
def DnS (h h' : Hs) : Prop := ∃ st, h' = pt h 0 0 (stS st)
theorem GoodS.len {h : Hs} (q : GoodS h) : 0 < h.length := by obtain ⟨st, e⟩ := q; exact gt_lt e
theorem DnS.good {h h' : Hs} (q : GoodS h) (d : DnS h h') : GoodS h' := by
  obtain ⟨st, e⟩ := q
  obtain ⟨st', rfl⟩ := d
  exact ⟨st', by rw [gt_pt e, if_pos ⟨rfl, rfl⟩]⟩
theorem DnS.refl {h : Hs} (q : GoodS h) : DnS h h := by
  obtain ⟨st, e⟩ := q
  exact ⟨st, (pt_self e).symm⟩
theorem DnS.trans {a b c : Hs} (d : DnS a b) (e : DnS b c) : DnS a c := by
  obtain ⟨st, rfl⟩ := d
  obtain ⟨st', rfl⟩ := e
  exact ⟨st', pt_pt⟩
theorem DnS.len {h h' : Hs} (d : DnS h h') : h'.length = h.length := by
  obtain ⟨st, rfl⟩ := d
  exact pt_len ..
theorem goodS_cons {t : List Ob} {h : Hs} (q : GoodS h) : GoodS (t :: h) := by
  have hl := q.len
  obtain ⟨st, e⟩ := q
  exact ⟨st, by rw [gt_of_lt hl]; exact e⟩
/-- what _law_draw gives -/
def DrawS (ns : List Int) (call : Str → List D → Hs → Res D) : Prop := ∀ (m : Int) (h : Hs), GoodS h → 0 < m → m < 1073741824 → ∃ (v : Int) (st : Int × Int), (∀ t : List (List Ob), call "_law_draw" [.loc 0 0, .scr ns, .int m] (t ++ h) = .ok (.int v) (t ++ pt h 0 0 (stS st))) ∧ 0 ≤ v ∧ v < m
def refB (call : Str → List D → Hs → Res D) : List SS := [(sSet 2 (eC (.int 0))), (sIf (tOf (rd 0)) [(sSet 2 (eIx (rd 0) (eBin false .Mod (rd 1) (eBlt false .len [(rd 0)]))))] []), (sIf (tCmp (rd 2) [(.Lt, (eC (.int 0)))]) [(sSet 2 (eBin false .Sub (eC (.int 1)) (eBin false .Mult (eC (.int 2)) (rd 2))))] []), (sIf (tBool .And [(tCmp (rd 2) [(.GtE, (eBin false .Pow (eC (.int 10)) (eC (.int 18))))]), (tCmp (rd 1) [(.Lt, (eBlt false .len [(rd 0)]))])]) [(sRet (rd 2))] []), (sRet (eBin false .Mod (eBlt false .int [(eBin false .Add (eBin false .Mult (eBlt false .int [(eBin false .Add (eBin false .Add (eBin false .Mult (rd 2) (eC (.int 48271))) (eBin false .Mult (rd 1) (eC (.int 69621)))) (eC (.int 12345)))]) (eC (.int 40692))) (eC (.int 7)))]) (eC (.int 2147483399))))]
def drawB2 (call : Str → List D → Hs → Res D) : List SS := [(sIf (tCmp (eIx (rd 0) (eC (.int 1))) [(.Eq, (eC (.int 0)))]) [(sAsg (eCall call "_law_refill" [(rd 1), (eIx (rd 0) (eC (.int 0)))]) (gIx (rd 0) (eC (.int 1)))), (sAsg (eBin false .Add (eIx (rd 0) (eC (.int 0))) (eC (.int 1))) (gIx (rd 0) (eC (.int 0))))] []), (sSet 3 (eBin false .Mod (eBlt false .int [(eIx (rd 0) (eC (.int 1)))]) (rd 2))), (sAsg (eBin false .FloorDiv (eIx (rd 0) (eC (.int 1))) (rd 2)) (gIx (rd 0) (eC (.int 1)))), (sRet (rd 3))]
theorem len_scr (b : Bool) (ns : List Int) (h : Hs) : bltD b .len [.scr ns] h = .ok (.int ns.length) h := by
  show (match (some (ns.map D.int)) with | some ys => Res.ok (D.int ys.length) h | none => .bad) = _
  simp
theorem ix_scr (ns : List Int) (i : Int) (h : Hs) (h0 : 0 ≤ i) (h1 : i < ns.length) : ixD (.scr ns) (.int i) h = .ok (.int (ns[i.toNat]'(by omega))) h := by
  show (match (some (ns.map D.int)).bind fun xs => atI xs i with | some v => Res.ok v h | none => .bad) = _
  rw [Option.bind_some, atI_of h0 (by rw [List.length_map]; exact h1)]
  simp
theorem truth_scr (ns : List Int) (h : Hs) : truthR (.scr ns) h = .ok (!(ns.isEmpty)) h := by
  cases ns <;> rfl
theorem pow_ten : intOp .Pow 10 18 = some 1000000000000000000 := by decide +kernel
/-- the drawn whole of a refill -/
def refC (ns : List Int) (k : Int) : Int := if h : ns = [] then 0 else ns[(k.fmod ns.length).toNat]'(by
  have : 0 < ns.length := List.length_pos_iff.mpr h
  have h1 := Int.fmod_lt_of_pos k (b := (ns.length : Int)) (by omega)
  have h0 := Int.fmod_nonneg_of_pos k (b := (ns.length : Int)) (by omega)
  omega)
def refV (ns : List Int) (k : Int) : Int :=
  let c := refC ns k
  let c := if c < 0 then 1 - 2 * c else c
  if 1000000000000000000 ≤ c ∧ k < ns.length then c else ((c * 48271 + k * 69621 + 12345) * 40692 + 7).fmod 2147483399
theorem ref_run {call : Str → List D → Hs → Res D} (h : Hs) (ns : List Int) (k : Int) : finO false h.length (blk (refB call) [some (.scr ns), some (.int k), none] ([] :: h)) = .ok (.int (refV ns k)) h := by
  refine fin_e fun Q K => ?_
  have fin : ∀ v : Int, v = refV ns k → Q.r (.int v) ([] :: h) := fun v e => K.r rfl (by rw [e]; exact ⟨rfl, rfl⟩)
  have tail : ∀ c : Int, (c < 0 → 1 - 2 * c = (if refC ns k < 0 then 1 - 2 * refC ns k else refC ns k)) → (0 ≤ c → c = (if refC ns k < 0 then 1 - 2 * refC ns k else refC ns k)) → (blk ((refB call).drop 2) [some (.scr ns), some (.int k), some (.int c)] ([] :: h)).sat Q := fun c q1 q2 => by
    have two : ∀ c : Int, c = (if refC ns k < 0 then 1 - 2 * refC ns k else refC ns k) → (blk ((refB call).drop 3) [some (.scr ns), some (.int k), some (.int c)] ([] :: h)).sat Q := fun c q => by
      by_cases c1 : (1000000000000000000 : Int) ≤ c
      · by_cases c2 : k < (ns.length : Int)
        · simp [refB, len_scr, c2, pow_ten, c1]
          exact fin _ (by unfold refV; simp only; rw [← q, if_pos ⟨c1, c2⟩])
        · simp [refB, len_scr, c2, pow_ten, c1]
          exact fin _ (by unfold refV; simp only; rw [← q, if_neg (fun z => c2 z.2)])
      · simp [refB, len_scr, pow_ten, c1]
        exact fin _ (by unfold refV; simp only; rw [← q, if_neg (fun z => c1 z.1)])
    rw [show (refB call).drop 2 = (sIf (tCmp (rd 2) [(.Lt, (eC (.int 0)))]) [(sSet 2 (eBin false .Sub (eC (.int 1)) (eBin false .Mult (eC (.int 2)) (rd 2))))] []) :: (refB call).drop 3 from rfl]
    generalize (refB call).drop 3 = rest at two ⊢
    by_cases c0 : c < 0
    · simp [c0]
      exact two _ (q1 c0)
    · simp [c0]
      exact two _ (q2 (by omega))
  rw [show refB call = (sSet 2 (eC (.int 0))) :: (sIf (tOf (rd 0)) [(sSet 2 (eIx (rd 0) (eBin false .Mod (rd 1) (eBlt false .len [(rd 0)]))))] []) :: (refB call).drop 2 from rfl]
  generalize (refB call).drop 2 = rest at tail ⊢
  by_cases hn : ns = []
  · subst hn
    simp [truth_scr]
    exact tail 0 (by simp) (by simp [refC])
  · have hp : 0 < ns.length := List.length_pos_iff.mpr hn
    have h1 := Int.fmod_lt_of_pos k (b := (ns.length : Int)) (by omega)
    have h0 := Int.fmod_nonneg_of_pos k (b := (ns.length : Int)) (by omega)
    have he : ns.isEmpty = false := by cases ns <;> simp at hn ⊢
    have hz : (ns.length : Int) ≠ 0 := by omega
    simp [truth_scr, he, len_scr, hn, ix_scr ns _ _ h0 h1]
    have e : refC ns k = ns[(k.fmod ns.length).toNat]'(by omega) := by unfold refC; rw [dif_neg hn]
    rw [← e]
    exact tail _ (fun c => by rw [if_pos c]) (fun c => by rw [if_neg (by omega)])
theorem drawS_run {call : Str → List D → Hs → Res D} (ns : List Int) (hr : ∀ k h, call "_law_refill" [.scr ns, .int k] h = .ok (.int (refV ns k)) h) (m : Int) (h : Hs) (q : GoodS h) (hm : 0 < m) (hm2 : m < 1073741824) : ∃ (v : Int) (st : Int × Int), (∀ t : List (List Ob), finO false (t ++ h).length (blk (drawB2 call) [some (.loc 0 0), some (.scr ns), some (.int m), none] ([] :: (t ++ h))) = .ok (.int v) (t ++ pt h 0 0 (stS st))) ∧ 0 ≤ v ∧ v < m := by
  obtain ⟨⟨a, b⟩, e⟩ := q
  have hl := gt_lt e
  obtain ⟨a1, b1, hab⟩ : ∃ a1 b1 : Int, (a1, b1) = if b = 0 then (a + 1, refV ns a) else (a, b) := ⟨_, _, rfl⟩
  have ptt : ∀ (t : List (List Ob)) (x : Ob), pt (t ++ h) 0 0 x = t ++ pt h 0 0 x := fun t x => by
    induction t with
    | nil => rfl
    | cons y t ih => rw [List.cons_append, pt_cons (by simp; omega), ih]; rfl
  have gtt : ∀ (t : List (List Ob)), gt (t ++ h) 0 0 = some (stS (a, b)) := fun t => by
    induction t with
    | nil => exact e
    | cons y t ih => rw [List.cons_append, gt_of_lt (by simp; omega), ih]
  refine ⟨b1.fmod m, (a1, b1.fdiv m), fun t => ?_, Int.fmod_nonneg_of_pos _ hm, Int.fmod_lt_of_pos _ hm⟩
  refine fin_e fun Q K => ?_
  have hlt : 0 < ([] :: (t ++ h) : Hs).length := by simp
  have g1 : gt ([] :: (t ++ h)) 0 0 = some (stS (a, b)) := gtt ([] :: t)
  have p1 : ∀ x, pt ([] :: (t ++ h)) 0 0 x = [] :: (t ++ pt h 0 0 x) := fun x => ptt ([] :: t) x
  have g2 : ∀ z z', gt (pt ([] :: (t ++ h)) 0 0 (stS z)) 0 0 = some (stS z') ↔ z = z' := fun z z' => by
    rw [gt_pt g1, if_pos ⟨rfl, rfl⟩]
    constructor
    · intro q
      unfold stS at q
      simp at q
      exact Prod.ext q.1 q.2
    · rintro rfl; rfl
  have rest : ∀ H, gt H 0 0 = some (stS (a1, b1)) → (∀ x, pt H 0 0 x = [] :: (t ++ pt h 0 0 x)) → (blk ((drawB2 call).drop 1) [some (.loc 0 0), some (.scr ns), some (.int m), none] H).sat Q := fun H g p => by
    have s1 : setD (.loc 0 0) (.int 1) (.int (b1.fdiv m)) H = .ok .non (pt H 0 0 (stS (a1, b1.fdiv m))) := setD_loc g (j := 1) rfl rfl
    have hm0 : m ≠ 0 := by omega
    have hma : m.natAbs < 1073741824 := by omega
    simp [drawB2, ix_loc g, hm0, hma, s1, p]
    exact K.r rfl ⟨rfl, rfl⟩
  rw [show drawB2 call = (sIf (tCmp (eIx (rd 0) (eC (.int 1))) [(.Eq, (eC (.int 0)))]) [(sAsg (eCall call "_law_refill" [(rd 1), (eIx (rd 0) (eC (.int 0)))]) (gIx (rd 0) (eC (.int 1)))), (sAsg (eBin false .Add (eIx (rd 0) (eC (.int 0))) (eC (.int 1))) (gIx (rd 0) (eC (.int 0))))] []) :: (drawB2 call).drop 1 from rfl]
  generalize (drawB2 call).drop 1 = R at rest ⊢
  by_cases hb : b = 0
  · rw [if_pos hb] at hab
    cases hab
    have s1 : setD (.loc 0 0) (.int 1) (.int (refV ns a)) ([] :: (t ++ h)) = .ok .non (pt ([] :: (t ++ h)) 0 0 (stS (a, refV ns a))) := setD_loc g1 (j := 1) rfl rfl
    have g3 := (g2 (a, refV ns a) (a, refV ns a)).mpr rfl
    have s2 : setD (.loc 0 0) (.int 0) (.int (a + 1)) (pt ([] :: (t ++ h)) 0 0 (stS (a, refV ns a))) = .ok .non (pt ([] :: (t ++ h)) 0 0 (stS (a + 1, refV ns a))) := by
      have := setD_loc g3 (i := 0) (j := 0) rfl (v := .int (a + 1)) rfl
      rw [this, pt_pt]
      rfl
    have g4 := (g2 (a + 1, refV ns a) (a + 1, refV ns a)).mpr rfl
    have p4 : ∀ x, pt (pt ([] :: (t ++ h)) 0 0 (stS (a + 1, refV ns a))) 0 0 x = [] :: (t ++ pt h 0 0 x) := fun x => by rw [pt_pt, p1]
    generalize pt ([] :: (t ++ h)) 0 0 (stS (a, refV ns a)) = H1 at s1 g3 s2
    generalize pt ([] :: (t ++ h)) 0 0 (stS (a + 1, refV ns a)) = H2 at s2 g4 p4
    simp [ix_loc g1, hb, hr, s1, ix_loc g3, s2]
    exact rest _ g4 p4
  · rw [if_neg hb] at hab
    cases hab
    simp [ix_loc g1, hb]
    exact rest _ g1 p1
/-- a draw inside a def -/
theorem drawS_at {ns : List Int} {call : Str → List D → Hs → Res D} (hc : DrawS ns call) {X : Hs} (q : GoodS X) {m : Int} (hm : 0 < m) (hm2 : m < 1073741824) :
    ∃ (v : Int) (X' : Hs), (∀ t, call "_law_draw" [.loc 0 0, .scr ns, .int m] (t :: X) = .ok (.int v) (t :: X')) ∧ 0 ≤ v ∧ v < m ∧ GoodS X' ∧ X'.length = X.length ∧ DnS X X' := by
  obtain ⟨v, st, e, h0, h1⟩ := hc m X q hm hm2
  have d : DnS X (pt X 0 0 (stS st)) := ⟨st, rfl⟩
  exact ⟨v, _, fun t => e [t], h0, h1, d.good q, d.len, d⟩
/-- a draw in the law itself -/
theorem drawS_L {ns : List Int} {call : Str → List D → Hs → Res D} (hc : DrawS ns call) (st : Int × Int) (r : List Ob) {m : Int} (hm : 0 < m) (hm2 : m < 1073741824) :
    ∃ (v : Int) (st' : Int × Int), call "_law_draw" [.loc 0 0, .scr ns, .int m] [stS st :: r] = .ok (.int v) [stS st' :: r] ∧ 0 ≤ v ∧ v < m := by
  obtain ⟨v, st', e, h0, h1⟩ := hc m [stS st :: r] ⟨st, rfl⟩ hm hm2
  exact ⟨v, st', e [], h0, h1⟩
theorem goodS_LH (st : Int × Int) (r : List Ob) : GoodS [stS st :: r] := ⟨st, rfl⟩
theorem dnS_LH {st : Int × Int} {r : List Ob} {h' : Hs} (d : DnS [stS st :: r] h') : ∃ st' : Int × Int, h' = [stS st' :: r] := by
  obtain ⟨st', rfl⟩ := d
  exact ⟨st', rfl⟩
/-! ### _law_exact -/
/-- plain data that _law_exact looks at -/
inductive Ex : Nat → D → Prop
  | non (n) : Ex n .non
  | int (n i) : Ex n (.int i)
  | bl (n b) : Ex n (.bl b)
  | str (n z) : PyData.strOk z = true → Ex n (.str z)
  | tup (n) (xs : List D) : xs.length ≤ 1000000 → (∀ x ∈ xs, Ex n x) → Ex (n + 1) (.tup xs)
  | lst (n) (xs : List D) : xs.length ≤ 1000000 → (∀ x ∈ xs, Ex n x) → Ex (n + 1) (.lst xs)
theorem Ex.up {n m : Nat} {d : D} (h : Ex n d) (hm : n ≤ m) : Ex m d := by
  induction h generalizing m with
  | non => exact .non _
  | int => exact .int _ _
  | bl => exact .bl _ _
  | str _ z h => exact .str _ _ h
  | tup n xs hl _ ih =>
    obtain ⟨k, rfl⟩ : ∃ k, m = k + 1 := ⟨m - 1, by omega⟩
    exact .tup _ _ hl fun x hx => ih x hx (by omega)
  | lst n xs hl _ ih =>
    obtain ⟨k, rfl⟩ : ∃ k, m = k + 1 := ⟨m - 1, by omega⟩
    exact .lst _ _ hl fun x hx => ih x hx (by omega)
def exB (call : Str → List D → Hs → Res D) : List SS := [(sIf (tOf (eIsT (rd 0) [(eC (.ty "list")), (eC (.ty "tuple"))])) [(sIf (tBool .Or [(tCmp (eBlt false .isinstance [(rd 0), (eC (.ty "list"))]) [(.NotEq, (eBlt false .isinstance [(rd 1), (eC (.ty "list"))]))]), (tCmp (eBlt false .isinstance [(rd 0), (eC (.ty "tuple"))]) [(.NotEq, (eBlt false .isinstance [(rd 1), (eC (.ty "tuple"))]))])]) [(sRet (eC (.bl false)))] []), (sRet (eBool .And [(eCmp (eBlt false .len [(rd 0)]) [(.Eq, (eBlt false .len [(rd 1)]))]), (eBlt false .all [(eComp false [2] (wR1 (eBlt false .len [(rd 0)])) (pV 2) none (eCall call "_law_exact" [(eIx (rd 0) (rd 2)), (eIx (rd 1) (rd 2))]))])]))] []), (sIf (tBool .Or [(tCmp (rd 0) [(.Is, (eC .non))]), (tCmp (rd 1) [(.Is, (eC .non))])]) [(sRet (eBool .And [(eCmp (rd 0) [(.Is, (eC .non))]), (eCmp (rd 1) [(.Is, (eC .non))])]))] []), (sSet 3 (eBool .And [(eCmp (eBlt false .isinstance [(rd 0), (eC (.ty "str"))]) [(.Eq, (eBlt false .isinstance [(rd 1), (eC (.ty "str"))]))]), (eCmp (eBlt false .isinstance [(rd 0), (eC (.ty "bool"))]) [(.Eq, (eBlt false .isinstance [(rd 1), (eC (.ty "bool"))]))])])), (sRet (eBool .And [(rd 3), (eCmp (eBlt false .isinstance [(rd 0), (eC (.ty "int"))]) [(.Eq, (eBlt false .isinstance [(rd 1), (eC (.ty "int"))]))]), (eCmp (rd 0) [(.Eq, (rd 1))])]))]
section
variable {h : Hs}
theorem isin_ap (b : Bool) (x : D) (T : String) {t : String} {r : Bool} (e1 : tyD x h = some t) (e2 : isTy t T = some r) : bltD b .isinstance [x, .ty T] h = .ok (.bl r) h := by
  show (match tyD x h, D.ty T with
    | some t, .ty T => match isTy t T with
      | some r => Res.ok (D.bl r) h
      | none => .bad
    | _, _ => .bad) = _
  rw [e1]
  simp only [e2]
@[simp] theorem ty_non : tyD .non h = some "NoneType" := id rfl
@[simp] theorem ty_bl (b) : tyD (.bl b) h = some "bool" := id rfl
@[simp] theorem ty_int (b) : tyD (.int b) h = some "int" := id rfl
@[simp] theorem ty_str (b) : tyD (.str b) h = some "str" := id rfl
@[simp] theorem ty_tup (b) : tyD (.tup b) h = some "tuple" := id rfl
@[simp] theorem ty_lst (b) : tyD (.lst b) h = some "list" := id rfl
/-- is a value of a type -/
def isB (x : D) (T : String) : Bool := match tyD x [], isTy ((tyD x []).getD "") T with
  | some _, some r => r
  | _, _ => false
theorem isin_non (b : Bool) {T : String} (hT : T ∈ ["bool", "int", "str", "tuple", "list"]) : bltD b .isinstance [.non, .ty T] h = .ok (.bl false) h := isin_ap b _ _ rfl (by revert T; decide)
theorem isin_bl (b z : Bool) {T : String} (hT : T ∈ ["bool", "int", "str", "tuple", "list"]) : bltD b .isinstance [.bl z, .ty T] h = .ok (.bl (T == "bool" || T == "int")) h := isin_ap b _ _ rfl (by revert T; decide)
theorem isin_int (b : Bool) (z : Int) {T : String} (hT : T ∈ ["bool", "int", "str", "tuple", "list"]) : bltD b .isinstance [.int z, .ty T] h = .ok (.bl (T == "int")) h := isin_ap b _ _ rfl (by revert T; decide)
theorem isin_str (b : Bool) (z : Str) {T : String} (hT : T ∈ ["bool", "int", "str", "tuple", "list"]) : bltD b .isinstance [.str z, .ty T] h = .ok (.bl (T == "str")) h := isin_ap b _ _ rfl (by revert T; decide)
theorem isin_tup (b : Bool) (z : List D) {T : String} (hT : T ∈ ["bool", "int", "str", "tuple", "list"]) : bltD b .isinstance [.tup z, .ty T] h = .ok (.bl (T == "tuple")) h := isin_ap b _ _ rfl (by revert T; decide)
theorem isin_lst (b : Bool) (z : List D) {T : String} (hT : T ∈ ["bool", "int", "str", "tuple", "list"]) : bltD b .isinstance [.lst z, .ty T] h = .ok (.bl (T == "list")) h := isin_ap b _ _ rfl (by revert T; decide)
theorem isT_non : isTys "NoneType" [.ty "list", .ty "tuple"] = some false := by decide +kernel
theorem isT_bl : isTys "bool" [.ty "list", .ty "tuple"] = some false := by decide +kernel
theorem isT_int : isTys "int" [.ty "list", .ty "tuple"] = some false := by decide +kernel
theorem isT_str : isTys "str" [.ty "list", .ty "tuple"] = some false := by decide +kernel
theorem isT_tup : isTys "tuple" [.ty "list", .ty "tuple"] = some true := by decide +kernel
theorem isT_lst : isTys "list" [.ty "list", .ty "tuple"] = some true := by decide +kernel
end
theorem bind_res {α β : Type} (a : α) (f : α → Hs → Res β) (h : Hs) : (Res.ok a h).bind f = f a h := rfl
open Classical in
theorem exact_flat {call : Str → List D → Hs → Res D} {m : Nat} {x y : D} {h : Hs} (hx : Ex m x) (hy : Ex m y) (h1 : ∀ xs, x ≠ .tup xs) (h2 : ∀ xs, x ≠ .lst xs) : finO false h.length (blk (exB call) [some x, some y, none, none] ([] :: h)) = .ok (.bl (decide (x = y))) h := by
  refine fin_e fun Q K => ?_
  have fin : ∀ {b : Bool}, b = decide (x = y) → Q.r (.bl b) ([] :: h) := fun e => K.r rfl ⟨by rw [e], rfl⟩
  cases hx with
  | tup _ xs _ _ => exact absurd rfl (h1 xs)
  | lst _ xs _ _ => exact absurd rfl (h2 xs)
  | str _ z hz =>
    cases hy with
    | str _ w hw =>
      simp [exB, isT_str, isin_str, isD, cmp_eq_of (eqD_strs hz hw _)]
      exact fin (by rw [Bool.eq_iff_iff]; simp)
    | _ =>
      simp [exB, isT_str, isin_non, isin_bl, isin_int, isin_str, isin_tup, isin_lst, isD]
      exact fin (by simp)
  | non =>
    cases hy <;> simp [exB, isT_non, isin_non, isin_bl, isin_int, isin_str, isin_tup, isin_lst, isD] <;> exact fin (by simp)
  | int =>
    cases hy <;> simp [exB, isT_int, isin_non, isin_bl, isin_int, isin_str, isin_tup, isin_lst, isD] <;> exact fin (by rw [Bool.eq_iff_iff]; simp)
  | bl =>
    cases hy <;> simp [exB, isT_bl, isin_non, isin_bl, isin_int, isin_str, isin_tup, isin_lst, isD] <;> exact fin (by rw [Bool.eq_iff_iff]; simp)
theorem bools_bl : ∀ bs : List Bool, bools (bs.map D.bl) = some bs
  | [] => rfl
  | b :: bs => by rw [List.map_cons, bools_cons, bools_bl bs]; rfl
open Classical in
theorem exact_run {G : Cfg} (hG : ∀ n x y h, callN G (n + 1) "_law_exact" [x, y] h = finO false h.length (blk (exB (callN G n)) [some x, some y, none, none] ([] :: h))) :
    ∀ (m n : Nat) (x y : D) (h : Hs), Ex m x → Ex m y → callN G (n + m + 1) "_law_exact" [x, y] h = .ok (.bl (decide (x = y))) h := by
  intro m
  induction m with
  | zero =>
    intro n x y h hx hy
    rw [hG]
    exact exact_flat hx hy (fun xs e => by subst e; cases hx) (fun xs e => by subst e; cases hx)
  | succ m ih =>
    intro n x y h hx hy
    rw [hG]
    by_cases c1 : ∃ xs, x = .tup xs ∨ x = .lst xs
    · refine fin_e fun Q K => ?_
      have fin : ∀ {b : Bool}, b = decide (x = y) → Q.r (.bl b) ([] :: h) := fun e => K.r rfl ⟨by rw [e], rfl⟩
      have seqs : ∀ (c : List D → D), (∀ l (i : Int) H, ixD (c l) (.int i) H = match atI l i with | some v => .ok v H | none => .bad) → ∀ (xs ys : List D) (s : Sl), s = [some (c xs), some (c ys), none, none] → xs.length ≤ 1000000 → xs.length = ys.length → (∀ x ∈ xs, Ex m x) → (∀ x ∈ ys, Ex m x) →
          ∃ bs : List Bool, compL (Wk.of ((List.range xs.length).map fun i : Nat => D.int (i : Int))) (cTurn (pV 2) none (eCall (callN G (n + (m + 1))) "_law_exact" [(eIx (rd 0) (rd 2)), (eIx (rd 1) (rd 2))]) s) (Wk.of ((List.range xs.length).map fun i : Nat => D.int (i : Int))).most 0 [] ([] :: h) = .ok (bs.map D.bl) ([] :: h) ∧ bs.length = xs.length ∧ bs.all id = decide (xs = ys) := fun c hc xs ys s hs hl hxy h1 h2 => by
        subst hs
        refine ⟨(List.range xs.length).map fun i => decide (xs.getD i .non = ys.getD i .non), ?_, by simp, ?_⟩
        · have e := comp_map (turn := cTurn (pV 2) none (eCall (callN G (n + (m + 1))) "_law_exact" [(eIx (rd 0) (rd 2)), (eIx (rd 1) (rd 2))]) [some (c xs), some (c ys), none, none]) (fun i : Nat => D.int (i : Int)) (fun i => D.bl (decide (xs.getD i .non = ys.getD i .non))) (ts := List.range xs.length) (h := [] :: h) rfl (by simpa using hl) (fun i hi => by
            have hi := List.mem_range.mp hi
            have hi2 : i < ys.length := by omega
            have e1 : atI xs (i : Int) = some xs[i] := by rw [atI_nat]; simp [hi]
            have e2 : atI ys (i : Int) = some ys[i] := by rw [atI_nat]; simp [hi2]
            have e3 := ih n xs[i] ys[i] ([] :: h) (h1 _ (List.getElem_mem hi)) (h2 _ (List.getElem_mem hi2))
            simp [cTurn, hc, e1, e2, ← Nat.add_assoc, e3, hi, hi2])
          rw [List.map_map]
          exact e
        · rw [Bool.eq_iff_iff, List.all_eq_true]
          simp only [List.mem_map, List.mem_range, decide_eq_true_iff, id]
          constructor
          · intro q
            refine List.ext_getElem hxy fun i hi hi2 => ?_
            have := q _ ⟨i, hi, rfl⟩
            simpa [hi, hi2] using this
          · rintro rfl _ ⟨i, _, rfl⟩
            simp
      cases hx with
      | tup _ xs hl h1 =>
        cases hy with
        | tup _ ys hl2 h2 =>
          by_cases e : xs.length = ys.length
          · obtain ⟨bs, e1, e2, e3⟩ := seqs D.tup (fun _ _ _ => rfl) xs ys _ rfl hl e h1 h2
            have hb : bs.length ≤ sizeLine := szle (by omega)
            rw [e] at e1
            simp [exB, isT_tup, isin_tup, e, wr1_nat hl2, clear, e1, hb, bools_bl]
            refine fin ?_
            rw [e3, Bool.eq_iff_iff]
            simp
          · have e' : (xs.length : Int) ≠ ys.length := by omega
            simp [exB, isT_tup, isin_tup, e']
            exact fin (by rw [Bool.eq_iff_iff]; simp; intro q; exact e (by rw [q]))
        | _ =>
          simp [exB, isT_tup, isin_non, isin_bl, isin_int, isin_str, isin_tup, isin_lst]
          exact fin (by simp)
      | lst _ xs hl h1 =>
        cases hy with
        | lst _ ys hl2 h2 =>
          by_cases e : xs.length = ys.length
          · obtain ⟨bs, e1, e2, e3⟩ := seqs D.lst (fun _ _ _ => rfl) xs ys _ rfl hl e h1 h2
            have hb : bs.length ≤ sizeLine := szle (by omega)
            rw [e] at e1
            simp [exB, isT_lst, isin_lst, e, wr1_nat hl2, clear, e1, hb, bools_bl]
            refine fin ?_
            rw [e3, Bool.eq_iff_iff]
            simp
          · have e' : (xs.length : Int) ≠ ys.length := by omega
            simp [exB, isT_lst, isin_lst, e']
            exact fin (by rw [Bool.eq_iff_iff]; simp; intro q; exact e (by rw [q]))
        | _ =>
          simp [exB, isT_lst, isin_non, isin_bl, isin_int, isin_str, isin_tup, isin_lst]
          exact fin (by simp)
      | _ =>
        obtain ⟨xs, q | q⟩ := c1 <;> cases q
    · exact exact_flat hx hy (fun xs e => c1 ⟨xs, .inl e⟩) (fun xs e => c1 ⟨xs, .inr e⟩)
/-! ### first faults -/
theorem enm_enc {T : Type} (enc : T → D) (xs : List T) (z : T) : (xs.map enc).zipIdx.map (fun p => D.tup [.int (p.2 : Nat), p.1]) = (List.range xs.length).map (fun i : Nat => D.tup [.int (i : Nat), enc (xs.getD i z)]) := by
  refine List.ext_getElem (by simp) fun i h1 h2 => ?_
  have : i < xs.length := by simpa using h1
  simp [this]
theorem fs_none {T U : Type} {F : T → Option U} {t : T} {r : List T} (e : F t = none) : (t :: r).findSome? F = r.findSome? F := by rw [List.findSome?_cons, e]
theorem fs_some {T U : Type} {F : T → Option U} {t : T} {r : List T} {u : U} (e : F t = some u) : (t :: r).findSome? F = some u := by rw [List.findSome?_cons, e]
theorem dnS_cons {t : List Ob} {X Y : Hs} (q : GoodS X) (d : DnS (t :: X) Y) : ∃ X', Y = t :: X' ∧ DnS X X' := by
  obtain ⟨st, rfl⟩ := d
  exact ⟨_, pt_cons q.len, st, rfl⟩
/-- a map over a list that stays -/
theorem comp_mapw {T : Type} {turn : D → Hs → Res (Option D)} (enc f : T → D) {w : Wk} {xs : List D} {ts : List T} {h : Hs} (hx : xs = ts.map enc) (hm : w.most = xs.length) (hw : ∀ i, w.nxt i h = some xs[i]?) (hl : ts.length ≤ 1000000)
    (step : ∀ t, t ∈ ts → turn (enc t) h = .ok (some (f t)) h) : compL w turn w.most 0 [] h = .ok (ts.map f) h := by
  obtain ⟨ys, h', e, rfl, rfl⟩ := comp_w (turn := turn) enc (fun r acc H => H = h ∧ ∃ d, ts = d ++ r ∧ acc = d.map f) (R := fun ys H => H = h ∧ ys = ts.map f) hx hm (fun r acc H q => by rw [q.1]; exact hw)
    (fun t r acc H ht => by
      rintro ⟨rfl, d, e, rfl⟩
      refine ⟨_, H, step t ht, fun y _ => ?_, rfl, d ++ [t], by simp [e], by simp⟩
      rw [List.length_map]
      refine szlt ?_
      rw [e, List.length_append] at hl
      omega)
    (fun acc H => by
      rintro ⟨rfl, d, e, rfl⟩
      rw [List.append_nil] at e
      subst e
      exact ⟨rfl, rfl⟩) (h := h) ⟨rfl, [], rfl, rfl⟩
  exact e
end Bk

/-! BkRow: lists of lists in the youngest region. -/
namespace Bk
open PySem PySem.Spec PyProof.Rows L2
@[simp] theorem truthR_lst (xs : List D) (h : Hs) : truthR (.lst xs) h = .ok (!xs.isEmpty) h := id rfl
@[simp] theorem truthR_tup (xs : List D) (h : Hs) : truthR (.tup xs) h = .ok (!xs.isEmpty) h := id rfl
theorem truthR_loc {l k : Nat} {xs : List D} {h : Hs} (e : gt h l k = some (.lst xs)) : truthR (.loc l k) h = .ok (!xs.isEmpty) h := by
  have : truthR (.loc l k) h = match (cur h l k).map fun xs => !xs.isEmpty with | some b => .ok b h | none => .bad := id rfl
  rw [this, cur_of e]
  rfl
section
variable {T : List Ob} {X : Hs} {L : Nat}
theorem row_gt (hL : X.length = L) (j : Nat) : gt (T :: X) L j = T[j]? := by rw [gt_cons, if_pos hL.symm]
theorem row_pt (hL : X.length = L) (j : Nat) (o : Ob) : pt (T :: X) L j o = T.set j o :: X := by rw [pt_eq, if_pos hL.symm]
theorem row_ix (hL : X.length = L) {j : Nat} {xs : List D} (e : T[j]? = some (.lst xs)) (i : Int) : ixD (.loc L j) (.int i) (T :: X) = match atI xs i with | some v => .ok v (T :: X) | none => .bad := ix_loc (by rw [row_gt hL, e]) i
theorem row_set (hL : X.length = L) {j : Nat} {xs : List D} (e : T[j]? = some (.lst xs)) {i : Int} {k : Nat} (hk : ixN xs.length i = some k) {v : D} (ho : D.oks (L + 1) (xs.set k v) = true) : setD (.loc L j) (.int i) v (T :: X) = .ok .non (T.set j (.lst (xs.set k v)) :: X) := by
  rw [setD_loc (by rw [row_gt hL, e]) hk ho, row_pt hL]
theorem row_tup (hL : X.length = L) {j : Nat} {xs : List D} (e : T[j]? = some (.lst xs)) (b : Bool) : bltD b .tuple [.loc L j] (T :: X) = .ok (.tup xs) (T :: X) := by
  rw [tuple_loc, cur_of (by rw [row_gt hL, e])]
theorem row_len (hL : X.length = L) {j : Nat} {xs : List D} (e : T[j]? = some (.lst xs)) (b : Bool) : bltD b .len [.loc L j] (T :: X) = .ok (.int xs.length) (T :: X) := len_loc (by rw [row_gt hL, e]) b
theorem row_own (hL : X.length = L) {j : Nat} {xs : List D} (e : T[j]? = some (.lst xs)) : (D.loc L j).own (T :: X) = some xs := cur_of (by rw [row_gt hL, e])
end
/-- the j-th places of a region -/
def rowL (L n : Nat) : List D := (List.range n).map fun j => .loc L j
/-- a comprehension that makes a list of each item: the lists lie in the youngest region, one behind the other -/
theorem comp_rows {T : Type} {turn : D → Hs → Res (Option D)} (enc : T → D) (f : T → Ob) {xs : List D} {ts : List T} {T0 : List Ob} {X : Hs} (hx : xs = ts.map enc) (hl : ts.length ≤ 1000000) (step : ∀ t ∈ ts, ∀ T' : List Ob, turn (enc t) (T' :: X) = .ok (some (.loc X.length T'.length)) ((T' ++ [f t]) :: X)) :
    compL (Wk.of xs) turn (Wk.of xs).most 0 [] (T0 :: X) = .ok ((List.range ts.length).map fun j => .loc X.length (T0.length + j)) ((T0 ++ ts.map f) :: X) := by
  obtain ⟨ys, h', e, rfl, rfl⟩ := comp_eq (turn := turn) enc (fun r acc H => ∃ d, ts = d ++ r ∧ acc = (List.range d.length).map (fun j => D.loc X.length (T0.length + j)) ∧ H = (T0 ++ d.map f) :: X) (R := fun ys H => ys = (List.range ts.length).map (fun j => D.loc X.length (T0.length + j)) ∧ H = (T0 ++ ts.map f) :: X) (ts0 := ts)
    (fun t r acc H ht => by
      rintro ⟨d, e, rfl, rfl⟩
      refine ⟨_, _, step t ht _, fun y _ => szlt ?_, d ++ [t], by simp [e], ?_, by simp⟩
      · rw [e, List.length_append] at hl
        simp
        omega
      · simp [List.range_succ])
    (fun acc H => by
      rintro ⟨d, e, rfl, rfl⟩
      rw [List.append_nil] at e
      subst e
      exact ⟨rfl, rfl⟩) hx (h := T0 :: X) ⟨[], rfl, rfl, by simp⟩
  exact e
theorem pickI (xs : List Int) {x : Int} (h0 : 0 ≤ x) (h1 : x < xs.length) : ∃ y ∈ xs, atI (xs.map D.int) x = some (.int y) := by
  obtain ⟨k, rfl⟩ := Int.eq_ofNat_of_zero_le h0
  have hk : k < xs.length := by omega
  exact ⟨xs[k], List.getElem_mem hk, by rw [Bk.atI_nat, List.getElem?_map, List.getElem?_eq_getElem hk]; rfl⟩
theorem rowL_at (L : Nat) {n j : Nat} (hj : j < n) : atI (rowL L n) (j : Int) = some (.loc L j) := by
  unfold rowL
  rw [Bk.atI_nat, List.getElem?_map, List.getElem?_range hj]
  rfl
@[simp] theorem rowL_len (L n : Nat) : (rowL L n).length = n := by unfold rowL; simp
theorem rowL_emp (L n : Nat) : (rowL L n).isEmpty = decide (n = 0) := by
  cases n with
  | zero => rfl
  | succ n =>
    rw [List.isEmpty_eq_false_iff.mpr (fun e => by have := congrArg List.length e; simp at this)]
    rfl
theorem fsr_none {U : Type} {F : Nat → Option U} {n : Nat} (h : ∀ j < n, F j = none) : (List.range n).findSome? F = none := by
  rw [List.findSome?_eq_none_iff]
  exact fun j hj => h j (List.mem_range.mp hj)
theorem fsr_some {U : Type} {F : Nat → Option U} {i : Nat} {x : U} (h1 : ∀ j < i, F j = none) (h2 : F i = some x) : ∀ {n : Nat}, i < n → (List.range n).findSome? F = some x
  | 0, h => by omega
  | n + 1, h => by
    rw [List.range_succ, List.findSome?_append]
    by_cases hi : i < n
    · rw [fsr_some h1 h2 hi]; rfl
    · have : i = n := by omega
      subst this
      rw [fsr_none h1, List.findSome?_cons, h2]; rfl
theorem sorted_D {d : D} {h : Hs} {ys : List D} {ps : List PyData} (ho : d.items h = some ys) (h1 : D.ints ys = none) (h2 : D.pys ys = some ps) (h3 : srtOk ps = true) (b : Bool) : bltD b .sorted [d] h = mkL b (srtL ys ps) h := by
  show (match (d.items h).bind D.ints with
    | some is => mkL b ((sortI is).map .int) h
    | none => match d.items h with
      | some ys => match D.pys ys with
        | some ps => if srtOk ps = true then mkL b (srtL ys ps) h else .bad
        | none => .bad
      | none => match dcAt d h with
        | some (_, _, .dt kvs) => if srtOk (kvs.map fun (p : List Int × D) => .tuple (p.1.map .int)) = true then mkL b (srtL (kvs.map fun (p : List Int × D) => .tup (p.1.map .int)) (kvs.map fun (p : List Int × D) => .tuple (p.1.map .int))) h else .bad
        | _ => .bad) = _
  rw [ho]
  simp only [Option.bind_some, h1, h2, h3, if_true]
open Classical in
/-- a thing is equal to itself -/
theorem eqD_self {x : D} {h : Hs} (hn : x.now h = x) (hx : x.pu 60 = true) : eqD x x h = some true := by
  rw [eqD_pu (by rw [hn]; exact hx) (by rw [hn]; exact hx)]
  simp
end Bk

/-! BkGl: running generator expressions, sets, zips in the shallow form. -/
namespace Bk
open PySem PySem.Spec PyProof.Rows L2
section
variable {s : Sl} {h : Hs}
@[simp] theorem bound_zero (d : D) : bound (some d :: s) 0 = true := id rfl
@[simp] theorem bound_succ (i : Nat) (x : Option D) : bound (x :: s) (i + 1) = bound s i := id rfl
@[simp] theorem wZip_ap (x y : EE) : wZip x y s h = (x s h).bind fun v h1 => (y s h1).bind (walkZip v) := id rfl
@[simp] theorem gwSeq_ap (x : EE) : gwSeq x s h = (x s h).bind seqL := id rfl
@[simp] theorem gwR1_ap (x : EE) : gwR1 x s h = (x s h).bind (rngL (.int 0)) := id rfl
@[simp] theorem gwR2_ap (x y : EE) : gwR2 x y s h = (x s h).bind fun v h1 => (y s h1).bind (rngL v) := id rfl
@[simp] theorem gwEnm_ap (x : EE) : gwEnm x s h = (x s h).bind fun v h1 => (seqL v h1).bind fun xs h2 => .ok (xs.zipIdx.map fun p => .tup [.int (p.2 : Nat), p.1]) h2 := id rfl
@[simp] theorem gwZip_ap (x y : EE) : gwZip x y s h = (x s h).bind fun v h1 => (y s h1).bind (zipD v) := id rfl
@[simp] theorem seqL_lst (xs) : seqL (.lst xs) h = .ok xs h := id rfl
@[simp] theorem seqL_tup (xs) : seqL (.tup xs) h = .ok xs h := id rfl
theorem seqL_loc {l k xs} (e : gt h l k = some (.lst xs)) : seqL (.loc l k) h = .ok xs h := by
  show (match cur h l k with | some xs => Res.ok xs h | none => .bad) = _
  rw [cur_of e]
theorem rngL_nat {m n : Int} (hz : -(2 ^ 61) ≤ m ∧ m < 2 ^ 61 ∧ -(2 ^ 61) ≤ n ∧ n < 2 ^ 61) : rngL (.int m) (.int n) h = .ok ((List.range (n - m).toNat).map fun i => .int (m + (i : Nat))) h := if_pos hz
@[simp] theorem zipD_tup (xs ys) : zipD (.tup xs) (.tup ys) h = .ok (zipL xs ys) h := id rfl
@[simp] theorem zipD_lst (xs ys) : zipD (.lst xs) (.lst ys) h = .ok (zipL xs ys) h := id rfl
@[simp] theorem eLenSet_ap (x : EE) : eLenSet x s h = (x s h).bind lenSet := id rfl
@[simp] theorem eRngL_ap (b) (x : EE) : eRngL b x s h = (x s h).bind (rngD b) := id rfl
@[simp] theorem eSRev_ap (b) (x : EE) : eSRev b x s h = (x s h).bind (sortRev b) := id rfl
@[simp] theorem eRev_ap (b) (x : EE) : eRev b x s h = (x s h).bind (revD b) := id rfl
@[simp] theorem eSortSet_ap (b) (x : EE) : eSortSet b x s h = (x s h).bind (sortSet b) := id rfl
theorem ints_map : ∀ is : List Int, D.ints (is.map .int) = some is
  | [] => rfl
  | i :: r => by show ((D.ints (r.map .int)).map fun is => i :: is) = _; rw [ints_map r]; rfl
theorem lenSet_ints {d : D} {is : List Int} (e : d.seq h = some (is.map .int)) (few : is.length ≤ 4000) : lenSet d h = .ok (.int (dedupI is).length) h := by
  unfold lenSet
  rw [e, Option.bind_some, ints_map]
  exact if_pos few
theorem sortSet_ints {b : Bool} {d : D} {is : List Int} (e : d.seq h = some (is.map .int)) (few : is.length ≤ 4000) (few2 : (dedupI is).length < 64) : sortSet b d h = mkL b ((sortI (dedupI is)).map .int) h := by
  unfold sortSet
  rw [e, Option.bind_some, ints_map]
  exact if_pos ⟨few, few2⟩
/-! generators -/
theorem gPres_one {T : Type} {x : Str} (enc : T → D) (pp : T → PyData) : ∀ {ts : List T}, (∀ t ∈ ts, (enc t).py = some (pp t)) → gPres [x] (ts.map enc) = some (ts.map fun t => [pp t])
  | [], _ => rfl
  | t :: r, hp => by
    have e1 := hp t List.mem_cons_self
    have e2 := gPres_one (x := x) enc pp (ts := r) fun t ht => hp t (List.mem_cons_of_mem _ ht)
    show ((D.py (enc t)).map fun p => [p]).bind (fun p => (gPres [x] (r.map enc)).map fun ps => p :: ps) = _
    rw [e1, e2]; rfl
theorem gPres_two {T : Type} {x y : Str} (ea eb : T → D) (pa pb : T → PyData) : ∀ {ts : List T}, (∀ t ∈ ts, (ea t).py = some (pa t) ∧ (eb t).py = some (pb t)) → gPres [x, y] (ts.map fun t => .tup [ea t, eb t]) = some (ts.map fun t => [pa t, pb t])
  | [], _ => rfl
  | t :: r, hp => by
    obtain ⟨e1, e3⟩ := hp t List.mem_cons_self
    have e2 := gPres_two (x := x) (y := y) ea eb pa pb (ts := r) fun t ht => hp t (List.mem_cons_of_mem _ ht)
    show (D.pys [ea t, eb t]).bind (fun p => (gPres [x, y] (r.map fun t => D.tup [ea t, eb t])).map fun ps => p :: ps) = _
    rw [e2]
    show ((D.py (ea t)).bind fun a => ((D.py (eb t)).bind fun b => (some []).map fun as => b :: as).map fun as => a :: as).bind _ = _
    rw [e1, e3]; rfl
theorem gPres_nest {T : Type} {x y z : Str} {r : List Str} (ea : T → D) (eb : T → List D) (pa : T → PyData) (pb : T → List PyData) : ∀ {ts : List T}, (∀ t ∈ ts, (ea t).py = some (pa t) ∧ D.pys (eb t) = some (pb t) ∧ (x :: y :: z :: r).length = (eb t).length + 1) →
    gPres (x :: y :: z :: r) (ts.map fun t => .tup [ea t, .tup (eb t)]) = some (ts.map fun t => (pb t).reverse ++ [pa t])
  | [], _ => rfl
  | t :: l, hp => by
    obtain ⟨e1, e2, e3⟩ := hp t List.mem_cons_self
    have ih := gPres_nest (x := x) (y := y) (z := z) (r := r) ea eb pa pb (ts := l) fun t ht => hp t (List.mem_cons_of_mem _ ht)
    show (gPre (x :: y :: z :: r) (.tup [ea t, .tup (eb t)])).bind (fun p => (gPres (x :: y :: z :: r) (l.map fun t => D.tup [ea t, .tup (eb t)])).map fun ps => p :: ps) = _
    have e : gPre (x :: y :: z :: r) (.tup [ea t, .tup (eb t)]) = some ((pb t).reverse ++ [pa t]) := by
      show (if (x :: y :: z :: r).length = (eb t).length + 1 then (ea t).py.bind fun p => (D.pys (eb t)).map fun qs => qs.reverse ++ [p] else none) = _
      rw [if_pos e3, e1, e2]; rfl
    rw [e, ih]
    rfl
theorem gAll_run {T : Type} {t' : XB} {e : XE} (pp : T → List PyData) (tb : T → Bool) (r : T → PyData) : ∀ {ts : List T}, (∀ t ∈ ts, t' (pp t) s h = some (tb t)) → (∀ t ∈ ts, tb t = true → e (pp t) s h = some (r t) ∧ isRes (r t) = true) →
    gAll (fun ps => xTurn t' e s h ps) (ts.map pp) = some ((ts.filter tb).map r)
  | [], _, _ => rfl
  | t :: l, h1, h2 => by
    have ih := gAll_run pp tb r (ts := l) (fun t ht => h1 t (List.mem_cons_of_mem _ ht)) fun t ht => h2 t (List.mem_cons_of_mem _ ht)
    rw [List.map_cons, gAll, ih]
    unfold xTurn
    rw [h1 t List.mem_cons_self]
    cases hb : tb t with
    | false => simp [hb]
    | true =>
      obtain ⟨e1, e2⟩ := h2 t List.mem_cons_self hb
      simp [hb, e1, e2]
theorem pyBools_map {T : Type} (f : T → Bool) : ∀ ts : List T, pyBools (ts.map fun t => .bool (f t)) = some (ts.map f)
  | [] => rfl
  | t :: r => by show ((pyBools (r.map fun t => .bool (f t))).map fun bs => f t :: bs) = _; rw [pyBools_map f r]; rfl
theorem pyInts_map {T : Type} (f : T → Int) : ∀ ts : List T, pyInts (ts.map fun t => .int (f t)) = some (ts.map f)
  | [] => rfl
  | t :: r => by show ((pyInts (r.map fun t => .int (f t))).map fun bs => f t :: bs) = _; rw [pyInts_map f r]; rfl
theorem eGen_ap (k bd w own t e) : eGen k bd w own t e s h = (if bd.all (bound s) then (w s h).bind fun xs h1 => match (gPres own xs).bind (gAll fun ps => xTurn t e s h1 ps) with
    | some qs => .ok qs h1
    | none => .bad
  else .bad).bind (conD k) := id rfl
/-- all(..), any(..) without a test -/
theorem gen_all {T : Type} {bd own} {w : Sl → Hs → Res (List D)} {e : XE} (xs : List D) (pp : T → List PyData) (ts : List T) (f : T → Bool) (hb : bd.all (bound s) = true) (hw : w s h = .ok xs h) (hx : gPres own xs = some (ts.map pp)) (he : ∀ t ∈ ts, e (pp t) s h = some (.bool (f t))) :
    eGen .all bd w own yYes e s h = .ok (.bl (ts.all f)) h := by
  rw [eGen_ap, hb, if_pos rfl, hw]
  simp only [Res.bind_ok, hx, Option.bind_some]
  rw [gAll_run pp (fun _ => true) (fun t => .bool (f t)) (fun _ _ => rfl) fun t ht _ => ⟨he t ht, rfl⟩]
  rw [List.filter_eq_self.mpr (fun _ _ => rfl)]
  simp only [Res.bind_ok, conD, pyBools_map, List.all_map]
  rfl
theorem gen_any {T : Type} {bd own} {w : Sl → Hs → Res (List D)} {e : XE} (xs : List D) (pp : T → List PyData) (ts : List T) (f : T → Bool) (hb : bd.all (bound s) = true) (hw : w s h = .ok xs h) (hx : gPres own xs = some (ts.map pp)) (he : ∀ t ∈ ts, e (pp t) s h = some (.bool (f t))) :
    eGen .any bd w own yYes e s h = .ok (.bl (ts.any f)) h := by
  rw [eGen_ap, hb, if_pos rfl, hw]
  simp only [Res.bind_ok, hx, Option.bind_some]
  rw [gAll_run pp (fun _ => true) (fun t => .bool (f t)) (fun _ _ => rfl) fun t ht _ => ⟨he t ht, rfl⟩]
  rw [List.filter_eq_self.mpr (fun _ _ => rfl)]
  simp only [Res.bind_ok, conD, pyBools_map, List.any_map]
  rfl
theorem gen_sum {T : Type} {bd own} {w : Sl → Hs → Res (List D)} {t' : XB} {e : XE} (xs : List D) (pp : T → List PyData) (ts : List T) (tb : T → Bool) (f : T → Int) (hb : bd.all (bound s) = true) (hw : w s h = .ok xs h) (hx : gPres own xs = some (ts.map pp))
    (ht : ∀ t ∈ ts, t' (pp t) s h = some (tb t)) (he : ∀ t ∈ ts, tb t = true → e (pp t) s h = some (.int (f t))) : eGen .sum bd w own t' e s h = .ok (.int ((ts.filter tb).map f).sum) h := by
  rw [eGen_ap, hb, if_pos rfl, hw]
  simp only [Res.bind_ok, hx, Option.bind_some]
  rw [gAll_run pp tb (fun t => .int (f t)) ht fun t ht hb => ⟨he t ht hb, rfl⟩]
  simp only [Res.bind_ok, conD, pyInts_map]
/-! draws of the second kind -/
theorem pickD (xs : List D) {v : Int} (h0 : 0 ≤ v) (h1 : v < xs.length) : ∃ x ∈ xs, atI xs v = some x := by
  obtain ⟨k, rfl⟩ := Int.eq_ofNat_of_zero_le h0
  have hk : k < xs.length := by omega
  exact ⟨xs[k], List.getElem_mem hk, by rw [Bk.atI_nat, List.getElem?_eq_getElem hk]⟩
/-- a comprehension of draws -/
theorem comp_drS {ns : List Int} {call : Str → List D → Hs → Res D} (hc : DrawS ns call) {turn : D → Hs → Res (Option D)} {t0 : List Ob} {m : Int} (hm : 0 < m) (hm2 : m < 1073741824) (n : Nat) (hn : n ≤ 1000000)
    (hturn : ∀ (i : Nat) X1 v X2, (∀ t, call "_law_draw" [.loc 0 0, .scr ns, .int m] (t :: X1) = .ok (.int v) (t :: X2)) → turn (.int (i : Int)) (t0 :: X1) = .ok (some (.int v)) (t0 :: X2)) {X : Hs} (q : GoodS X) :
    ∃ (vs : List Int) (X' : Hs), compL (Wk.of ((List.range n).map fun i : Nat => D.int (i : Int))) turn (Wk.of ((List.range n).map fun i : Nat => D.int (i : Int))).most 0 [] (t0 :: X) = .ok (vs.map .int) (t0 :: X') ∧ vs.length = n ∧ (∀ v ∈ vs, 0 ≤ v ∧ v < m) ∧ GoodS X' ∧ X'.length = X.length ∧ DnS X X' := by
  obtain ⟨ys, h', e, vs, X', rfl, rfl, p1, p2, p3, p4, p5⟩ := comp_eq (turn := turn) (fun i : Nat => D.int (i : Int)) (fun r acc H => ∃ (vs : List Int) (X1 : Hs), acc = vs.map .int ∧ H = t0 :: X1 ∧ vs.length + r.length = n ∧ (∀ v ∈ vs, 0 ≤ v ∧ v < m) ∧ GoodS X1 ∧ X1.length = X.length ∧ DnS X X1)
    (R := fun ys H => ∃ (vs : List Int) (X1 : Hs), ys = vs.map .int ∧ H = t0 :: X1 ∧ vs.length = n ∧ (∀ v ∈ vs, 0 ≤ v ∧ v < m) ∧ GoodS X1 ∧ X1.length = X.length ∧ DnS X X1) (ts0 := List.range n)
    (fun i r acc H _ => by
      rintro ⟨vs, X1, rfl, rfl, hl, hv, q1, l1, d1⟩
      obtain ⟨v, X2, e, v0, v1, q2, l2, d2⟩ := drawS_at hc q1 hm hm2
      refine ⟨_, _, hturn i X1 v X2 e, fun y _ => szlt ?_, vs ++ [v], X2, by simp, rfl, ?_, ?_, q2, by omega, d1.trans d2⟩
      · simp at hl ⊢; omega
      · simp at hl ⊢; omega
      · intro u hu
        rcases List.mem_append.mp hu with hu | hu
        · exact hv u hu
        · rw [List.mem_singleton.mp hu]; exact ⟨v0, v1⟩)
    (fun acc H => by
      rintro ⟨vs, X1, rfl, rfl, hl, hv, q1, l1, d1⟩
      exact ⟨vs, X1, rfl, rfl, by simpa using hl, hv, q1, l1, d1⟩) rfl (h := t0 :: X) ⟨[], X, rfl, rfl, by simp, by simp, q, rfl, DnS.refl q⟩
  exact ⟨vs, X', e, p1, p2, p3, p4, p5⟩
/-- append to the youngest region's k-th list -/
theorem app_row {T : List Ob} {X : Hs} {L k : Nat} {xs : List D} {y : D} (hL : X.length = L) (e : T[k]? = some (.lst xs)) (hl : xs.length ≤ 1000000) (ho : D.oks (L + 1) xs = true) (hy : y.ok (L + 1) = true) : mthD .append (.loc L k) [y] (T :: X) = .ok .non (T.set k (.lst (xs ++ [y])) :: X) := by
  have g : gt (T :: X) L k = some (.lst xs) := by rw [row_gt hL, e]
  rw [append_ap, cur_of g]
  simp only
  rw [if_pos (szlt hl)]
  unfold wr
  have : Ob.ok (L + 1) (.lst (xs ++ [y])) = true := by
    show D.oks (L + 1) (xs ++ [y]) = true
    rw [oks_append, ho]
    show (true && (D.ok (L + 1) y && D.oks (L + 1) [])) = true
    rw [hy]; rfl
  rw [if_pos this, row_pt hL]
/-! min, max of ints in a tuple -/
theorem mm_ok_ints (ts : List Int) : mmOk (ts.map .int) = true := by
  unfold mmOk
  rw [PySem.W.depth_ints]
  simp [List.all_eq_true, isNonP, PySem.W.alike]
theorem pys_ints : ∀ ts : List Int, D.pys (ts.map .int) = some (ts.map .int)
  | [] => rfl
  | t :: r => by
    show ((D.py (.int t)).bind fun a => (D.pys (r.map .int)).map fun as => a :: as) = _
    rw [pys_ints r]; rfl
theorem mmD_ints (mx : Bool) (t : Int) (r : List Int) : mmD mx ((t :: r).map .int) h = .ok (.int (if mx then r.foldl max t else r.foldl min t)) h := by
  unfold mmD
  rw [pys_ints]
  show (if mmOk ((t :: r).map .int) = true then _ else _) = _
  rw [if_pos (mm_ok_ints _)]
  cases mx with
  | true => show Res.ok (D.un (PySem.W.maxD (.int t) (r.map .int))) h = _; rw [PySem.W.maxD_ints]; rfl
  | false => show Res.ok (D.un (PySem.W.minD (.int t) (r.map .int))) h = _; rw [PySem.W.minD_ints]; rfl
theorem min_tup (b : Bool) (t : Int) (r : List Int) : bltD b .min [.tup ((t :: r).map .int)] h = .ok (.int (r.foldl min t)) h := mmD_ints false t r
theorem max_tup (b : Bool) (t : Int) (r : List Int) : bltD b .max [.tup ((t :: r).map .int)] h = .ok (.int (r.foldl max t)) h := mmD_ints true t r
theorem foldmin_lt (c : Int) : ∀ (r : List Int) (t : Int), r.foldl min t < c ↔ ∃ x ∈ t :: r, x < c
  | [], t => by simp
  | y :: r, t => by
    rw [List.foldl_cons, foldmin_lt c r]
    simp only [List.mem_cons, exists_eq_or_imp]
    have : min t y < c ↔ t < c ∨ y < c := by omega
    rw [this]
    exact or_assoc
theorem foldmax_gt (c : Int) : ∀ (r : List Int) (t : Int), c < r.foldl max t ↔ ∃ x ∈ t :: r, c < x
  | [], t => by simp
  | y :: r, t => by
    rw [List.foldl_cons, foldmax_gt c r]
    simp only [List.mem_cons, exists_eq_or_imp]
    have : c < max t y ↔ c < t ∨ c < y := by omega
    rw [this]
    exact or_assoc
theorem sum_tup (b : Bool) (ts : List Int) : bltD b .sum [.tup (ts.map .int)] h = .ok (.int ts.sum) h := by
  show (match D.ints (ts.map .int) with | some is => Res.ok (D.int is.sum) h | none => .bad) = _
  rw [ints_map]
end
end Bk

/-! BkSrtT: lists of tuples of ints, sorted. -/
namespace Bk
open PySem PySem.Spec PyProof.Rows L2
theorem srtOk_I (L : List (List Int)) (hne : ∀ g ∈ L, g ≠ []) (hl : L.length ≤ 1000000) : srtOk (L.map pyI) = true := by
  unfold srtOk
  simp only [Bool.and_eq_true, List.all_eq_true, Bool.or_eq_true, decide_eq_true_eq, List.mem_map, List.length_map]
  refine ⟨⟨⟨?_, .inl ?_⟩, ?_⟩, szle hl⟩
  · rintro _ ⟨a, _, rfl⟩ _ ⟨b, _, rfl⟩
    exact PySem.W.alike_ints a b
  · rintro _ ⟨a, ha, rfl⟩
    cases a with
    | nil => exact absurd rfl (hne _ ha)
    | cons x r => rfl
  · rintro _ ⟨a, _, rfl⟩
    show PyData.depth (.tuple (a.map .int)) ≤ 60
    simp only [PyData.depth, PySem.W.depth_ints]
    omega
theorem pyEach {T : Type} (enc : T → D) (pp : T → PyData) (h : ∀ t, (enc t).py = some (pp t)) : ∀ ts : List T, D.pys (ts.map enc) = some (ts.map pp)
  | [] => rfl
  | t :: r => by
    show ((D.py (enc t)).bind fun a => (D.pys (r.map enc)).map fun as => a :: as) = _
    rw [pyEach enc pp h r, h t]; rfl
theorem pyTupI (g : List Int) : (encI g).py = some (pyI g) := by
  show (D.pys (g.map .int)).map PyData.tuple = _
  rw [pyEach D.int PyData.int (fun _ => rfl)]; rfl
theorem pysI (L : List (List Int)) : D.pys (L.map encI) = some (L.map pyI) := pyEach encI pyI pyTupI L
theorem intsI {L : List (List Int)} (h : L ≠ []) : D.ints (L.map encI) = none := by
  cases L with
  | nil => exact absurd rfl h
  | cons a r => rfl
theorem sort_I {d : D} {h : Hs} {L : List (List Int)} (ho : d.items h = some (L.map encI)) (hne : ∀ g ∈ L, g ≠ []) (hl : L.length ≤ 1000000) (b : Bool) : bltD b .sorted [d] h = mkL b ((srtI L).map encI) h := by
  by_cases hn : L = []
  · subst hn
    show (match (d.items h).bind D.ints with
      | some is => mkL b ((sortI is).map .int) h
      | none => _) = _
    rw [ho]
    show mkL b ((sortI []).map .int) h = mkL b ((srtI []).map encI) h
    simp [sortI, srtI]
  · rw [sorted_D ho (intsI hn) (pysI L) (srtOk_I L hne hl), srtL_I]
end Bk

/-! BkShf: _law_shuffled(state, script, row) over the second kind of draws. -/
namespace Bk
open PySem PySem.Spec PyProof.Rows L2 Bk
def shufB (call : Str → List D → Hs → Res D) : List SS := [(sSet 3 (eBlt true .list [(rd 2)])), (sSet 4 (eList true [])), (sWhile [] (tOf (rd 3)) [(sDrop (eMth .append (rd 4) [(eMth .pop (rd 3) [(eCall call "_law_draw" [(rd 0), (rd 1), (eBlt false .len [(rd 3)])])])]))]), (sRet (rdF 4))]
theorem erase_mapD {T : Type} (enc : T → D) (xs : List T) (j : Nat) : (xs.map enc).eraseIdx j = (xs.eraseIdx j).map enc := by simp [List.eraseIdx_eq_take_drop_succ, List.map_take, List.map_drop]
theorem perm_erase {T : Type} : ∀ (xs : List T) (j : Nat) (x : T), xs[j]? = some x → (x :: xs.eraseIdx j).Perm xs
  | [], j, x, e => by simp at e
  | y :: xs, 0, x, e => by
    simp at e
    subst e
    exact List.Perm.refl _
  | y :: xs, j + 1, x, e => by
    simp at e
    exact (List.Perm.swap y x _).trans ((perm_erase xs j x e).cons y)
theorem shuf_run {ns : List Int} {call : Str → List D → Hs → Res D} (hc : DrawS ns call) {T : Type} (enc : T → D) (hok : ∀ t n, (enc t).ok n = true) {h : Hs} (q : GoodS h) {d : D} {xs : List T} (hl : xs.length ≤ 1000) (hb : bltD true .list [d] ([] :: h) = .ok (.loc h.length 0) ([.lst (xs.map enc)] :: h)) :
    ∃ (ys : List T) (h' : Hs), finO false h.length (blk (shufB call) [some (.loc 0 0), some (.scr ns), some d, none, none] ([] :: h)) = .ok (.lst (ys.map enc)) h' ∧ ys.Perm xs ∧ GoodS h' ∧ h'.length = h.length ∧ DnS h h' := by
  have oks : ∀ (n : Nat) (l : List T), D.oks n (l.map enc) = true := fun n l => oks_map n enc (fun t => hok t n) l
  obtain ⟨d0, h', e, ys, rfl, p1, p2, p3, p4⟩ := fin_o (n := h.length) (o := blk (shufB call) [some (.loc 0 0), some (.scr ns), some d, none, none] ([] :: h)) (fun d0 h' => ∃ ys : List T, d0 = .lst (ys.map enc) ∧ ys.Perm xs ∧ GoodS h' ∧ h'.length = h.length ∧ DnS h h') fun Q K => by
    have s0 : 0 ≤ sizeLine := Nat.zero_le _
    simp [shufB, hb, s0]
    refine while_seq (fun k s H => ∃ (ls os : List T) (X : Hs), s = [some (.loc 0 0), some (.scr ns), some d, some (.loc h.length 0), some (.loc h.length 1)] ∧ H = [.lst (ls.map enc), .lst (os.map enc)] :: X ∧ k = ls.length ∧ (os ++ ls).Perm xs ∧ GoodS X ∧ X.length = h.length ∧ DnS h X) xs.length _ (by unfold wmost; omega) ⟨xs, [], h, rfl, rfl, rfl, List.Perm.refl _, q, rfl, DnS.refl q⟩ ?_
    rintro k s H ⟨ls, os, X, rfl, rfl, rfl, hp, g, hx, dn⟩
    have tr : truthR (.loc h.length 0) ([.lst (ls.map enc), .lst (os.map enc)] :: X) = .ok (!(ls.map enc).isEmpty) ([.lst (ls.map enc), .lst (os.map enc)] :: X) := truthR_loc (by rw [row_gt hx]; rfl)
    have hlen : os.length + ls.length = xs.length := by rw [← List.length_append]; exact hp.length_eq
    cases ls with
    | nil =>
      refine ⟨false, _, tr, fun _ => ?_, fun z => (by cases z)⟩
      have cu : cur ([.lst (([] : List T).map enc), .lst (os.map enc)] :: X) h.length 1 = some (os.map enc) := cur_of (by rw [row_gt hx]; rfl)
      have fr : freeze (.loc h.length 1) ([.lst (([] : List T).map enc), .lst (os.map enc)] :: X) = .ok (.lst (os.map enc)) ([.lst [], .dead] :: X) := by
        rw [freeze_loc, cu]
        simp only [row_pt hx]
        rfl
      simp only [List.map_nil] at fr ⊢
      simp [-freeze_loc, fr]
      exact K.r (oks _ os) ⟨os, rfl, by simpa using hp, g, hx, dn⟩
    | cons t ls =>
      refine ⟨true, _, tr, fun z => (by cases z), fun _ => ⟨ls.length, rfl, fun Q1 K1 => ?_⟩⟩
      generalize hL : t :: ls = L at hp hlen tr ⊢
      have hLl : L.length = ls.length + 1 := by rw [← hL]; rfl
      have ln := row_len (X := X) (L := h.length) (T := [.lst (L.map enc), .lst (os.map enc)]) hx (j := 0) (xs := L.map enc) rfl false
      rw [List.length_map] at ln
      obtain ⟨v, X2, e1, v0, v1, g2, hx2, dn2⟩ := drawS_at hc g (m := (L.length : Int)) (by omega) (by omega)
      obtain ⟨j, rfl⟩ := Int.eq_ofNat_of_zero_le v0
      have hj : j < L.length := by omega
      have hx3 : X2.length = h.length := by omega
      have pp := pop_loc (h := [.lst (L.map enc), .lst (os.map enc)] :: X2) (l := h.length) (k := 0) (x := enc L[j]) (xs := L.map enc) (i := (j : Int)) (j := j) (by rw [row_gt hx3]; rfl) rfl (by omega) (by rw [List.getElem?_map, List.getElem?_eq_getElem hj]; rfl) (by rw [erase_mapD]; exact oks _ _)
      rw [erase_mapD, row_pt hx3] at pp
      have ap := app_row (T := [.lst ((L.eraseIdx j).map enc), .lst (os.map enc)]) (X := X2) (L := h.length) (k := 1) (xs := os.map enc) (y := enc L[j]) hx3 rfl (by rw [List.length_map]; omega) (oks _ _) (hok _ _)
      have e2 := e1 [.lst (L.map enc), .lst (os.map enc)]
      simp only [List.set_cons_zero] at pp
      simp only [List.set_cons_succ, List.set_cons_zero] at ap
      simp [-append_ap, hx, hx3, e2, pp, ap]
      have e3 := perm_erase L j L[j] (by rw [List.getElem?_eq_getElem hj])
      refine K1.n ⟨L.eraseIdx j, os ++ [L[j]], X2, rfl, by rw [List.map_append] <;> rfl, ?_, ?_, g2, hx3, dn.trans dn2⟩
      · have := e3.length_eq
        rw [List.length_cons] at this
        omega
      · rw [List.append_assoc]
        exact (List.Perm.append_left os e3).trans hp
  exact ⟨ys, h', e, p1, p2, p3, p4⟩
/-- a comprehension with a draw at each turn -/
theorem comp_drJ {T U : Type} {turn : D → Hs → Res (Option D)} (J : Hs → Prop) (enc : T → D) (encU : U → D) (mk : T → Int → U) (pj : U → T) (hpj : ∀ t v, pj (mk t v) = t) (m : T → Int) {xs : List D} {ts : List T} (hx : xs = ts.map enc) (hl : ts.length ≤ 1000000)
    (step : ∀ t ∈ ts, ∀ H, J H → ∃ v H', 0 ≤ v ∧ v < m t ∧ turn (enc t) H = .ok (some (encU (mk t v))) H' ∧ J H') {h : Hs} (hJ : J h) :
    ∃ (us : List U) (h' : Hs), compL (Wk.of xs) turn (Wk.of xs).most 0 [] h = .ok (us.map encU) h' ∧ us.map pj = ts ∧ (∀ u ∈ us, ∃ t v, t ∈ ts ∧ 0 ≤ v ∧ v < m t ∧ u = mk t v) ∧ J h' := by
  obtain ⟨ys, h', e, us, rfl, p1, p2, p3⟩ := comp_eq (turn := turn) enc (fun r acc H => ∃ us : List U, acc = us.map encU ∧ us.map pj ++ r = ts ∧ (∀ u ∈ us, ∃ t v, t ∈ ts ∧ 0 ≤ v ∧ v < m t ∧ u = mk t v) ∧ J H)
    (R := fun ys H => ∃ us : List U, ys = us.map encU ∧ us.map pj = ts ∧ (∀ u ∈ us, ∃ t v, t ∈ ts ∧ 0 ≤ v ∧ v < m t ∧ u = mk t v) ∧ J H) (ts0 := ts)
    (fun t r acc H ht => by
      rintro ⟨us, rfl, hr, hu, hj⟩
      obtain ⟨v, H', v0, v1, e, hj'⟩ := step t ht H hj
      refine ⟨_, _, e, fun y _ => szlt ?_, us ++ [mk t v], by simp, ?_, ?_, hj'⟩
      · have := congrArg List.length hr
        simp at this ⊢
        omega
      · rw [List.map_append, List.append_assoc, ← hr]
        simp [hpj]
      · intro u hu'
        rcases List.mem_append.mp hu' with hu' | hu'
        · exact hu u hu'
        · exact ⟨t, v, ht, v0, v1, List.mem_singleton.mp hu'⟩)
    (fun acc H => by
      rintro ⟨us, rfl, hr, hu, hj⟩
      exact ⟨us, rfl, by simpa using hr, hu, hj⟩) hx (h := h) ⟨[], rfl, rfl, by simp, hJ⟩
  exact ⟨us, h', e, p1, p2, p3⟩
/-- a comprehension that keeps some, with draws -/
theorem comp_flJ {T : Type} {turn : D → Hs → Res (Option D)} (J : Hs → Prop) (enc : T → D) {xs : List D} {ts : List T} (hx : xs = ts.map enc) (hl : ts.length ≤ 1000000)
    (step : ∀ t ∈ ts, ∀ H, J H → ∃ (b : Bool) (H' : Hs), turn (enc t) H = .ok (if b then some (enc t) else none) H' ∧ J H') {h : Hs} (hJ : J h) :
    ∃ (us : List T) (h' : Hs), compL (Wk.of xs) turn (Wk.of xs).most 0 [] h = .ok (us.map enc) h' ∧ us.Sublist ts ∧ J h' := by
  obtain ⟨ys, h', e, us, rfl, p1, p2⟩ := comp_eq (turn := turn) enc (fun r acc H => ∃ us d : List T, acc = us.map enc ∧ d ++ r = ts ∧ us.Sublist d ∧ J H)
    (R := fun ys H => ∃ us : List T, ys = us.map enc ∧ us.Sublist ts ∧ J H) (ts0 := ts)
    (fun t r acc H ht => by
      rintro ⟨us, d, rfl, hr, hu, hj⟩
      obtain ⟨b, H', e, hj'⟩ := step t ht H hj
      have hlen := hu.length_le
      have hlen2 : d.length + (r.length + 1) = ts.length := by rw [← hr]; simp
      refine ⟨_, _, e, fun y _ => szlt (by rw [List.length_map]; omega), if b then us ++ [t] else us, d ++ [t], ?_, by rw [List.append_assoc]; exact hr, ?_, hj'⟩
      · cases b
        · simp
        · simp
      · cases b
        · exact hu.trans (List.sublist_append_left d [t])
        · exact hu.append (List.Sublist.refl [t]))
    (fun acc H => by
      rintro ⟨us, d, rfl, hr, hu, hj⟩
      rw [List.append_nil] at hr
      subst hr
      exact ⟨us, rfl, hu, hj⟩) hx (h := h) ⟨[], [], rfl, rfl, List.Sublist.refl _, hJ⟩
  exact ⟨us, h', e, p1, p2⟩
/-- a comprehension of drawn things -/
theorem comp_fJ {T U : Type} {turn : D → Hs → Res (Option D)} (J : Hs → Prop) (P : U → Prop) (enc : T → D) (encU : U → D) {xs : List D} {ts : List T} (hx : xs = ts.map enc) (hl : ts.length ≤ 1000000)
    (step : ∀ t ∈ ts, ∀ H, J H → ∃ (u : U) (H' : Hs), P u ∧ turn (enc t) H = .ok (some (encU u)) H' ∧ J H') {h : Hs} (hJ : J h) :
    ∃ (us : List U) (h' : Hs), compL (Wk.of xs) turn (Wk.of xs).most 0 [] h = .ok (us.map encU) h' ∧ us.length = ts.length ∧ (∀ u ∈ us, P u) ∧ J h' := by
  obtain ⟨ys, h', e, us, rfl, p1, p2, p3⟩ := comp_eq (turn := turn) enc (fun r acc H => ∃ us : List U, acc = us.map encU ∧ us.length + r.length = ts.length ∧ (∀ u ∈ us, P u) ∧ J H)
    (R := fun ys H => ∃ us : List U, ys = us.map encU ∧ us.length = ts.length ∧ (∀ u ∈ us, P u) ∧ J H) (ts0 := ts)
    (fun t r acc H ht => by
      rintro ⟨us, rfl, hr, hu, hj⟩
      obtain ⟨u, H', pu, e, hj'⟩ := step t ht H hj
      rw [List.length_cons] at hr
      refine ⟨_, _, e, fun y _ => szlt (by rw [List.length_map]; omega), us ++ [u], by simp, ?_, ?_, hj'⟩
      · rw [List.length_append]; simp; omega
      · intro x hx
        rcases List.mem_append.mp hx with hx | hx
        · exact hu x hx
        · rw [List.mem_singleton.mp hx]; exact pu)
    (fun acc H => by
      rintro ⟨us, rfl, hr, hu, hj⟩
      exact ⟨us, rfl, by simpa using hr, hu, hj⟩) hx (h := h) ⟨[], rfl, by simp, by simp, hJ⟩
  exact ⟨us, h', e, p1, p2, p3⟩
/-- a filter and a map over a list that stays -/
theorem comp_fmw {T : Type} {turn : D → Hs → Res (Option D)} (enc f : T → D) (p : T → Bool) {w : Wk} {xs : List D} {ts : List T} {h : Hs} (hx : xs = ts.map enc) (hm : w.most = xs.length) (hw : ∀ i, w.nxt i h = some xs[i]?) (hl : ts.length ≤ 1000000)
    (step : ∀ t ∈ ts, turn (enc t) h = .ok (if p t then some (f t) else none) h) : compL w turn w.most 0 [] h = .ok ((ts.filter p).map f) h := by
  obtain ⟨ys, h', e, rfl, rfl⟩ := comp_w (turn := turn) enc (fun r acc H => H = h ∧ acc.length + r.length ≤ ts.length ∧ acc ++ (r.filter p).map f = (ts.filter p).map f) (R := fun ys H => H = h ∧ ys = (ts.filter p).map f) hx hm (fun r acc H q => by rw [q.1]; exact hw)
    (fun t r acc H ht => by
      rintro ⟨rfl, hlen, ea⟩
      rw [List.length_cons] at hlen
      refine ⟨_, _, step t ht, fun y hy => szlt (by omega), rfl, ?_, ?_⟩
      · cases hp : p t
        · simp; omega
        · simp; omega
      · rw [← ea]
        cases hp : p t <;> simp [hp])
    (fun acc H => by
      rintro ⟨rfl, _, ea⟩
      exact ⟨rfl, by simpa using ea⟩) (h := h) ⟨rfl, by simp, by simp⟩
  exact e
end Bk

namespace P_k74
open PySem PySem.Spec PyProof.Rows L2 Bk
def topS (i : Nat) : Stmt := PySem.Challenge.pw_brackenfell_k74_crowds_and_units.main.body.getD i (.Pass ⟨0, 0, 0, 0⟩)
def r_at_tick : DefR := { st := topS 1, ps := ["visit", "busy", "tick"], nm := ["visit", "busy", "tick", "_", "first", "last"] }
def r_times_for : DefR := { st := topS 2, ps := ["visits", "busy", "code", "tick"], nm := ["visits", "busy", "code", "tick", "times", "visit", "there"] }
def r_crowd : DefR := { st := topS 3, ps := ["visits", "busy", "code"], nm := ["visits", "busy", "code", "best", "tick", "one", "first", "_", "many", "visit"] }
def r_shows_crowd : DefR := { st := topS 4, ps := ["visits", "busy", "code", "tick", "times"], nm := ["visits", "busy", "code", "tick", "times", "windows", "visit", "time", "_", "first", "last"], gen := true }
def r_units_suffice : DefR := { st := topS 5, ps := ["visits", "busy", "units"], nm := ["visits", "busy", "units", "code", "many", "most", "tick", "times"] }
def r__law_refill : DefR := { st := topS 7, ps := ["script", "k"], nm := ["script", "k", "cell"] }
def r__law_draw : DefR := { st := topS 8, ps := ["state", "script", "size"], nm := ["state", "script", "size", "digit"] }
def r__law_exact : DefR := { st := topS 9, ps := ["first", "second"], nm := ["first", "second", "k", "alike"] }
def r__law_shuffled : DefR := { st := topS 10, ps := ["state", "script", "row"], nm := ["state", "script", "row", "left", "out"] }
def r__law_due : DefR := { st := topS 11, ps := ["visits", "busy", "code"], nm := ["visits", "busy", "code", "windows", "one", "best", "tick", "many", "times", "first", "last"] }
def r__law_counted : DefR := { st := topS 12, ps := ["visits", "busy", "code", "tick", "times"], nm := ["visits", "busy", "code", "tick", "times", "windows", "one", "k"] }
def r_law : DefR := { st := topS 13, ps := ["script"], nm := ["script", "state", "visits", "k", "wide", "first", "last", "busy", "given", "found", "code", "due", "j", "times", "one", "kind", "at", "tick", "told", "units", "want", "many"] }
def G : Cfg :=
  { defs := [("at_tick", r_at_tick), ("times_for", r_times_for), ("crowd", r_crowd), ("shows_crowd", r_shows_crowd), ("units_suffice", r_units_suffice), ("_law_refill", r__law_refill), ("_law_draw", r__law_draw), ("_law_exact", r__law_exact), ("_law_shuffled", r__law_shuffled), ("_law_due", r__law_due), ("_law_counted", r__law_counted), ("law", r_law)],
    globs := [], loc := [(6, 12), (59, 11), (60, 10), (71, 12), (84, 12), (85, 13), (102, 20), (108, 24), (116, 12)], frz := [(11, 11), (63, 11), (74, 19)], dix := [(96, 19), (118, 46), (121, 22), (122, 48)], clr := [], blts := ["all", "bool", "int", "isinstance", "len", "list", "max", "min", "range", "sorted", "str", "sum", "tuple", "zip"], excs := [] }
def h_at_tick (call : Str → List D → Hs → Res D) : List SS := [(sAsg (rd 0) (gN (pT [(pV 3), (pV 4), (pV 5)]))), (sRet (eCmp (rd 4) [(.LtE, (rd 2)), (.LtE, (eBin false .Sub (eBin false .Add (rd 5) (rd 1)) (eC (.int 1))))]))]
theorem h_at_tick_eq (n : Nat) (x0 x1 x2 : D) (h : Hs) : callN G (n + 1) "at_tick" [x0, x1, x2] h = finO false h.length (blk (h_at_tick (callN G n)) [some x0, some x1, some x2, none, none, none] ([] :: h)) := by
  kernel_rfl
def h_times_for_b0 (call : Str → List D → Hs → Res D) : List SS := [(sIf (tCmp (eIx (rd 5) (eC (.int 0))) [(.Eq, (rd 2))]) [(sSet 6 (eCall call "at_tick" [(rd 5), (rd 1), (rd 3)])), (sDrop (eMth .append (rd 4) [(eIf (tOf (rd 6)) (eBlt false .max [(eIx (rd 5) (eC (.int 1))), (eBin false .Add (eBin false .Sub (rd 3) (rd 1)) (eC (.int 1)))]) (eIx (rd 5) (eC (.int 1))))]))] [])]
def h_times_for (call : Str → List D → Hs → Res D) : List SS := [(sSet 4 (eList true [])), (sFor [] (wSeq (rd 0)) (gN (pV 5)) (h_times_for_b0 call)), (sRet (rdF 4))]
theorem h_times_for_eq (n : Nat) (x0 x1 x2 x3 : D) (h : Hs) : callN G (n + 1) "times_for" [x0, x1, x2, x3] h = finO false h.length (blk (h_times_for (callN G n)) [some x0, some x1, some x2, some x3, none, none, none] ([] :: h)) := by
  kernel_rfl
def h_crowd_b0 (call : Str → List D → Hs → Res D) : List SS := [(sSet 8 (eBlt false .len [(eComp false [9] (wSeq (rd 0)) (pV 9) (some (tBool .And [(tCmp (eIx (rd 9) (eC (.int 0))) [(.Eq, (rd 2))]), (tOf (eCall call "at_tick" [(rd 9), (rd 1), (rd 4)]))])) (rd 9))])), (sIf (tCmp (rd 8) [(.Gt, (eIx (rd 3) (eC (.int 0))))]) [(sSet 3 (eTup [(rd 8), (rd 4)]))] [])]
def h_crowd (call : Str → List D → Hs → Res D) : List SS := [(sSet 3 (eTup [(eC (.int 0)), (eC (.int 0))])), (sFor [] (wSeq (eBlt false .sorted [(eComp false [5, 6, 7] (wSeq (rd 0)) (pT [(pV 5), (pV 6), (pV 7)]) (some (tCmp (rd 5) [(.Eq, (rd 2))])) (rd 6))])) (gN (pV 4)) (h_crowd_b0 call)), (sRet (eBin false .Add (rd 3) (eTup [(eCall call "times_for" [(rd 0), (rd 1), (rd 2), (eIx (rd 3) (eC (.int 1)))])])))]
theorem h_crowd_eq (n : Nat) (x0 x1 x2 : D) (h : Hs) : callN G (n + 1) "crowd" [x0, x1, x2] h = finO false h.length (blk (h_crowd (callN G n)) [some x0, some x1, some x2, none, none, none, none, none, none, none] ([] :: h)) := by
  kernel_rfl
def h_shows_crowd (call : Str → List D → Hs → Res D) : List SS := [(sSet 5 (eComp false [6] (wSeq (rd 0)) (pV 6) (some (tCmp (eIx (rd 6) (eC (.int 0))) [(.Eq, (rd 2))])) (rd 6))), (sIf (tCmp (eBlt false .len [(rd 4)]) [(.NotEq, (eBlt false .len [(rd 5)]))]) [(sRet (eNeg (eC (.int 1))))] []), (sIf (tNot (tOf (eGen .all [] (gwZip (rd 4) (rd 5)) ["last", "first", "_", "time"] yYes (xCmp (xV 1) [(.LtE, (xV 3)), (.LtE, (xV 0))])))) [(sRet (eNeg (eC (.int 1))))] []), (sRet (eBlt false .len [(eComp false [7] (wSeq (rd 4)) (pV 7) (some (tCmp (rd 7) [(.LtE, (rd 3)), (.Lt, (eBin false .Add (rd 7) (rd 1)))])) (rd 7))]))]
theorem h_shows_crowd_eq (n : Nat) (x0 x1 x2 x3 x4 : D) (h : Hs) : callN G (n + 1) "shows_crowd" [x0, x1, x2, x3, x4] h = finO false h.length (blk (h_shows_crowd (callN G n)) [some x0, some x1, some x2, some x3, some x4, none, none, none, none, none, none] ([] :: h)) := by
  kernel_rfl
def h_units_suffice_b0 (call : Str → List D → Hs → Res D) : List SS := [(sAsg (eCall call "crowd" [(rd 0), (rd 1), (rd 3)]) (gN (pT [(pV 5), (pV 6), (pV 7)]))), (sIf (tCmp (rd 5) [(.Gt, (rd 4))]) [(sRet (eTup [(eC (.str "short")), (rd 3), (rd 6), (rd 7)]))] [])]
def h_units_suffice (call : Str → List D → Hs → Res D) : List SS := [(sFor [] (wSeq (eBlt false .sorted [(rd 2)])) (gN (pT [(pV 3), (pV 4)])) (h_units_suffice_b0 call)), (sRet (eTup [(eC (.str "enough"))]))]
theorem h_units_suffice_eq (n : Nat) (x0 x1 x2 : D) (h : Hs) : callN G (n + 1) "units_suffice" [x0, x1, x2] h = finO false h.length (blk (h_units_suffice (callN G n)) [some x0, some x1, some x2, none, none, none, none, none] ([] :: h)) := by
  kernel_rfl
def h_law_refill (call : Str → List D → Hs → Res D) : List SS := [(sSet 2 (eC (.int 0))), (sIf (tOf (rd 0)) [(sSet 2 (eIx (rd 0) (eBin false .Mod (rd 1) (eBlt false .len [(rd 0)]))))] []), (sIf (tCmp (rd 2) [(.Lt, (eC (.int 0)))]) [(sSet 2 (eBin false .Sub (eC (.int 1)) (eBin false .Mult (eC (.int 2)) (rd 2))))] []), (sIf (tBool .And [(tCmp (rd 2) [(.GtE, (eBin false .Pow (eC (.int 10)) (eC (.int 18))))]), (tCmp (rd 1) [(.Lt, (eBlt false .len [(rd 0)]))])]) [(sRet (rd 2))] []), (sRet (eBin false .Mod (eBlt false .int [(eBin false .Add (eBin false .Mult (eBlt false .int [(eBin false .Add (eBin false .Add (eBin false .Mult (rd 2) (eC (.int 48271))) (eBin false .Mult (rd 1) (eC (.int 69621)))) (eC (.int 12345)))]) (eC (.int 40692))) (eC (.int 7)))]) (eC (.int 2147483399))))]
theorem h_law_refill_eq (n : Nat) (x0 x1 : D) (h : Hs) : callN G (n + 1) "_law_refill" [x0, x1] h = finO false h.length (blk (h_law_refill (callN G n)) [some x0, some x1, none] ([] :: h)) := by
  kernel_rfl
def h_law_draw (call : Str → List D → Hs → Res D) : List SS := [(sIf (tCmp (eIx (rd 0) (eC (.int 1))) [(.Eq, (eC (.int 0)))]) [(sAsg (eCall call "_law_refill" [(rd 1), (eIx (rd 0) (eC (.int 0)))]) (gIx (rd 0) (eC (.int 1)))), (sAsg (eBin false .Add (eIx (rd 0) (eC (.int 0))) (eC (.int 1))) (gIx (rd 0) (eC (.int 0))))] []), (sSet 3 (eBin false .Mod (eBlt false .int [(eIx (rd 0) (eC (.int 1)))]) (rd 2))), (sAsg (eBin false .FloorDiv (eIx (rd 0) (eC (.int 1))) (rd 2)) (gIx (rd 0) (eC (.int 1)))), (sRet (rd 3))]
theorem h_law_draw_eq (n : Nat) (x0 x1 x2 : D) (h : Hs) : callN G (n + 1) "_law_draw" [x0, x1, x2] h = finO false h.length (blk (h_law_draw (callN G n)) [some x0, some x1, some x2, none] ([] :: h)) := by
  kernel_rfl
def h_law_exact (call : Str → List D → Hs → Res D) : List SS := [(sIf (tOf (eIsT (rd 0) [(eC (.ty "list")), (eC (.ty "tuple"))])) [(sIf (tBool .Or [(tCmp (eBlt false .isinstance [(rd 0), (eC (.ty "list"))]) [(.NotEq, (eBlt false .isinstance [(rd 1), (eC (.ty "list"))]))]), (tCmp (eBlt false .isinstance [(rd 0), (eC (.ty "tuple"))]) [(.NotEq, (eBlt false .isinstance [(rd 1), (eC (.ty "tuple"))]))])]) [(sRet (eC (.bl false)))] []), (sRet (eBool .And [(eCmp (eBlt false .len [(rd 0)]) [(.Eq, (eBlt false .len [(rd 1)]))]), (eBlt false .all [(eComp false [2] (wR1 (eBlt false .len [(rd 0)])) (pV 2) none (eCall call "_law_exact" [(eIx (rd 0) (rd 2)), (eIx (rd 1) (rd 2))]))])]))] []), (sIf (tBool .Or [(tCmp (rd 0) [(.Is, (eC .non))]), (tCmp (rd 1) [(.Is, (eC .non))])]) [(sRet (eBool .And [(eCmp (rd 0) [(.Is, (eC .non))]), (eCmp (rd 1) [(.Is, (eC .non))])]))] []), (sSet 3 (eBool .And [(eCmp (eBlt false .isinstance [(rd 0), (eC (.ty "str"))]) [(.Eq, (eBlt false .isinstance [(rd 1), (eC (.ty "str"))]))]), (eCmp (eBlt false .isinstance [(rd 0), (eC (.ty "bool"))]) [(.Eq, (eBlt false .isinstance [(rd 1), (eC (.ty "bool"))]))])])), (sRet (eBool .And [(rd 3), (eCmp (eBlt false .isinstance [(rd 0), (eC (.ty "int"))]) [(.Eq, (eBlt false .isinstance [(rd 1), (eC (.ty "int"))]))]), (eCmp (rd 0) [(.Eq, (rd 1))])]))]
theorem h_law_exact_eq (n : Nat) (x0 x1 : D) (h : Hs) : callN G (n + 1) "_law_exact" [x0, x1] h = finO false h.length (blk (h_law_exact (callN G n)) [some x0, some x1, none, none] ([] :: h)) := by
  kernel_rfl
def h_law_shuffled_b0 (call : Str → List D → Hs → Res D) : List SS := [(sDrop (eMth .append (rd 4) [(eMth .pop (rd 3) [(eCall call "_law_draw" [(rd 0), (rd 1), (eBlt false .len [(rd 3)])])])]))]
def h_law_shuffled (call : Str → List D → Hs → Res D) : List SS := [(sSet 3 (eBlt true .list [(rd 2)])), (sSet 4 (eList true [])), (sWhile [] (tOf (rd 3)) (h_law_shuffled_b0 call)), (sRet (rdF 4))]
theorem h_law_shuffled_eq (n : Nat) (x0 x1 x2 : D) (h : Hs) : callN G (n + 1) "_law_shuffled" [x0, x1, x2] h = finO false h.length (blk (h_law_shuffled (callN G n)) [some x0, some x1, some x2, none, none] ([] :: h)) := by
  kernel_rfl
def h_law_due_b3 (call : Str → List D → Hs → Res D) : List SS := [(sDrop (eMth .append (rd 8) [(eIf (tCmp (rd 9) [(.LtE, (eIx (rd 5) (eC (.int 1)))), (.LtE, (eBin false .Sub (eBin false .Add (rd 10) (rd 1)) (eC (.int 1))))]) (eBlt false .max [(rd 9), (eBin false .Add (eBin false .Sub (eIx (rd 5) (eC (.int 1))) (rd 1)) (eC (.int 1)))]) (rd 9))]))]
def h_law_due_b1 (call : Str → List D → Hs → Res D) : List SS := [(sSet 7 (eBlt false .len [(eComp false [4] (wSeq (rd 3)) (pV 4) (some (tCmp (eIx (rd 4) (eC (.int 1))) [(.LtE, (rd 6)), (.LtE, (eBin false .Sub (eBin false .Add (eIx (rd 4) (eC (.int 2))) (rd 1)) (eC (.int 1))))])) (rd 4))])), (sIf (tCmp (rd 7) [(.Gt, (eIx (rd 5) (eC (.int 0))))]) [(sSet 5 (eTup [(rd 7), (rd 6)]))] [])]
def h_law_due (call : Str → List D → Hs → Res D) : List SS := [(sSet 3 (eComp false [4] (wSeq (rd 0)) (pV 4) (some (tCmp (eIx (rd 4) (eC (.int 0))) [(.Eq, (rd 2))])) (rd 4))), (sSet 5 (eTup [(eC (.int 0)), (eC (.int 0))])), (sFor [] (wR1 (eC (.int 1020))) (gN (pV 6)) (h_law_due_b1 call)), (sSet 8 (eList true [])), (sFor [] (wSeq (rd 3)) (gN (pT [(pV 2), (pV 9), (pV 10)])) (h_law_due_b3 call)), (sRet (eBin false .Add (rd 5) (eTup [(rdF 8)])))]
theorem h_law_due_eq (n : Nat) (x0 x1 x2 : D) (h : Hs) : callN G (n + 1) "_law_due" [x0, x1, x2] h = finO false h.length (blk (h_law_due (callN G n)) [some x0, some x1, some x2, none, none, none, none, none, none, none, none] ([] :: h)) := by
  kernel_rfl
def h_law_counted_b1 (call : Str → List D → Hs → Res D) : List SS := [(sIf (tBool .Or [(tCmp (eIx (rd 4) (rd 7)) [(.Lt, (eIx (eIx (rd 5) (rd 7)) (eC (.int 1))))]), (tCmp (eIx (rd 4) (rd 7)) [(.Gt, (eIx (eIx (rd 5) (rd 7)) (eC (.int 2))))])]) [(sRet (eNeg (eC (.int 1))))] [])]
def h_law_counted (call : Str → List D → Hs → Res D) : List SS := [(sSet 5 (eComp false [6] (wSeq (rd 0)) (pV 6) (some (tCmp (eIx (rd 6) (eC (.int 0))) [(.Eq, (rd 2))])) (rd 6))), (sIf (tCmp (eBlt false .len [(rd 4)]) [(.NotEq, (eBlt false .len [(rd 5)]))]) [(sRet (eNeg (eC (.int 1))))] []), (sFor [] (wR1 (eBlt false .len [(rd 4)])) (gN (pV 7)) (h_law_counted_b1 call)), (sRet (eBlt false .sum [(eComp false [6] (wSeq (rd 4)) (pV 6) none (eBlt false .int [(eCmp (rd 6) [(.LtE, (rd 3)), (.LtE, (eBin false .Sub (eBin false .Add (rd 6) (rd 1)) (eC (.int 1))))])]))]))]
theorem h_law_counted_eq (n : Nat) (x0 x1 x2 x3 x4 : D) (h : Hs) : callN G (n + 1) "_law_counted" [x0, x1, x2, x3, x4] h = finO false h.length (blk (h_law_counted (callN G n)) [some x0, some x1, some x2, some x3, some x4, none, none, none] ([] :: h)) := by
  kernel_rfl
def h_law_b5 (call : Str → List D → Hs → Res D) : List SS := [(sIf (tCmp (eIx (eDix (rd 9) (rd 10)) (eC (.int 0))) [(.Gt, (rd 21))]) [(sSet 20 (eBin false .Add (eTup [(eC (.str "short")), (rd 10)]) (eCut false (eDix (rd 9) (rd 10)) (some (eC (.int 1))) none)))] [])]
def h_law_b4 (call : Str → List D → Hs → Res D) : List SS := [(sDrop (eMth .append (rd 19) [(eTup [(rd 10), (eBlt false .max [(eC (.int 0)), (eBin false .Sub (eBin false .Add (eIx (eDix (rd 9) (rd 10)) (eC (.int 0))) (eCall call "_law_draw" [(rd 1), (rd 0), (eC (.int 4))])) (eC (.int 1)))])])]))]
def h_law_b3 (call : Str → List D → Hs → Res D) : List SS := [(sIf (tCmp (eIx (rd 14) (eC (.int 0))) [(.Eq, (rd 10))]) [(sDrop (eMth .append (rd 13) [(eBin false .Add (eIx (rd 14) (eC (.int 1))) (eCall call "_law_draw" [(rd 1), (rd 0), (eBin false .Add (eBin false .Sub (eIx (rd 14) (eC (.int 2))) (eIx (rd 14) (eC (.int 1)))) (eC (.int 1)))]))]))] [])]
def h_law_b2 (call : Str → List D → Hs → Res D) : List SS := [(sSet 13 (eList true [])), (sFor [] (wSeq (rd 2)) (gN (pV 14)) (h_law_b3 call)), (sSet 15 (eCall call "_law_draw" [(rd 1), (rd 0), (eC (.int 6))])), (sIf (tCmp (rd 15) [(.Eq, (eC (.int 0)))]) [(sSet 13 (eBin true .Add (rd 13) (eList false [(eC (.int 5))])))] [(sIf (tBool .And [(tCmp (rd 15) [(.Eq, (eC (.int 1)))]), (tOf (rd 13))]) [(sSet 16 (eCall call "_law_draw" [(rd 1), (rd 0), (eBlt false .len [(rd 13)])])), (sAsg (eBin false .Add (eIx (rd 13) (rd 16)) (eIx (eList false [(eNeg (eC (.int 1))), (eC (.int 1)), (eC (.int 1000)), (eNeg (eC (.int 1000)))]) (eCall call "_law_draw" [(rd 1), (rd 0), (eC (.int 4))]))) (gIx (rd 13) (rd 16)))] [])]), (sSet 17 (eIx (eList false [(eIx (rd 11) (eC (.int 1))), (eCall call "_law_draw" [(rd 1), (rd 0), (eC (.int 1020))]), (eNeg (eC (.int 1))), (eBin false .Sub (eBin false .Add (eIx (rd 11) (eC (.int 1))) (eCall call "_law_draw" [(rd 1), (rd 0), (eC (.int 9))])) (eC (.int 4)))]) (eCall call "_law_draw" [(rd 1), (rd 0), (eC (.int 4))]))), (sSet 18 (eCall call "_law_counted" [(rd 2), (rd 7), (rd 10), (rd 17), (rd 13)])), (sIf (tBool .Or [(tNot (tOf (eCall call "_law_exact" [(rd 18), (eCall call "shows_crowd" [(rd 2), (rd 7), (rd 10), (rd 17), (rd 13)])]))), (tCmp (rd 18) [(.Gt, (eIx (rd 11) (eC (.int 0))))])]) [(sRet (eC (.bl false)))] [])]
def h_law_b1 (call : Str → List D → Hs → Res D) : List SS := [(sSet 11 (eCall call "_law_due" [(rd 2), (rd 7), (rd 10)])), (sAsg (rd 11) (gDix (rd 9) (rd 10))), (sIf (tBool .Or [(tNot (tOf (eCall call "_law_exact" [(rd 11), (eCall call "crowd" [(rd 8), (rd 7), (rd 10)])]))), (tCmp (rd 8) [(.NotEq, (rd 2))])]) [(sRet (eC (.bl false)))] []), (sIf (tNot (tOf (eCall call "_law_exact" [(eIx (rd 11) (eC (.int 0))), (eCall call "shows_crowd" [(rd 2), (rd 7), (rd 10), (eIx (rd 11) (eC (.int 1))), (eBlt false .list [(eIx (rd 11) (eC (.int 2)))])])]))) [(sRet (eC (.bl false)))] []), (sFor [] (wR1 (eC (.int 4))) (gN (pV 12)) (h_law_b2 call))]
def h_law_b0 (call : Str → List D → Hs → Res D) : List SS := [(sSet 4 (eIx (eList false [(eC (.int 1000)), (eC (.int 60)), (eC (.int 12))]) (eCall call "_law_draw" [(rd 1), (rd 0), (eC (.int 3))]))), (sSet 5 (eCall call "_law_draw" [(rd 1), (rd 0), (rd 4)])), (sSet 6 (eBlt false .min [(eC (.int 999)), (eBin false .Add (rd 5) (eIx (eList false [(eC (.int 0)), (eCall call "_law_draw" [(rd 1), (rd 0), (eC (.int 4))]), (eCall call "_law_draw" [(rd 1), (rd 0), (rd 4)])]) (eCall call "_law_draw" [(rd 1), (rd 0), (eC (.int 3))])))])), (sDrop (eMth .append (rd 2) [(eTup [(eIx (eList false [(eC (.int 31)), (eC (.int 77)), (eC (.int 88)), (eC (.int 999))]) (eCall call "_law_draw" [(rd 1), (rd 0), (eC (.int 4))])), (rd 5), (rd 6)])]))]
def h_law (call : Str → List D → Hs → Res D) : List SS := [(sSet 1 (eList true [(eC (.int 0)), (eC (.int 0))])), (sSet 2 (eList true [])), (sFor [] (wR1 (eIx (eList false [(eC (.int 0)), (eC (.int 1)), (eC (.int 4)), (eC (.int 12)), (eC (.int 40))]) (eCall call "_law_draw" [(rd 1), (rd 0), (eC (.int 5))]))) (gN (pV 3)) (h_law_b0 call)), (sSet 7 (eIx (eList false [(eC (.int 1)), (eC (.int 2)), (eC (.int 20)), (eBin false .Add (eC (.int 1)) (eCall call "_law_draw" [(rd 1), (rd 0), (eC (.int 20))]))]) (eCall call "_law_draw" [(rd 1), (rd 0), (eC (.int 4))]))), (sSet 8 (eBlt false .list [(rd 2)])), (sSet 9 (eDict false)), (sFor [] (wSeq (eTup [(eC (.int 31)), (eC (.int 77)), (eC (.int 88)), (eC (.int 999)), (eC (.int 40))])) (gN (pV 10)) (h_law_b1 call)), (sSet 19 (eList true [])), (sFor [] (wSeq (eCall call "_law_shuffled" [(rd 1), (rd 0), (eList false [(eC (.int 31)), (eC (.int 77)), (eC (.int 88)), (eC (.int 999))])])) (gN (pV 10)) (h_law_b4 call)), (sSet 20 (eTup [(eC (.str "enough"))])), (sFor [] (wSeq (eSRev false (rd 19))) (gN (pT [(pV 10), (pV 21)])) (h_law_b5 call)), (sRet (eCall call "_law_exact" [(rd 20), (eCall call "units_suffice" [(rd 2), (rd 7), (eBlt false .list [(rd 19)])])]))]
theorem h_law_eq (n : Nat) (x0 : D) (h : Hs) : callN G (n + 1) "law" [x0] h = finO false h.length (blk (h_law (callN G n)) [some x0, none, none, none, none, none, none, none, none, none, none, none, none, none, none, none, none, none, none, none, none, none] ([] :: h)) := by
  kernel_rfl
end P_k74
namespace P_k74
open PySem PySem.Spec PyProof.Rows L2 Bk
theorem c_draw (ns : List Int) (n : Nat) : DrawS ns (callN G (n + 2)) := fun m h q hm hm2 => by
  obtain ⟨v, st, e, q1, q2⟩ := drawS_run (call := callN G (n + 1)) ns (fun k H => by rw [h_law_refill_eq]; exact ref_run (call := callN G n) H ns k) m h q hm hm2
  exact ⟨v, st, fun t => by rw [h_law_draw_eq]; exact e t, q1, q2⟩
open Classical in
theorem c_exact (m n : Nat) (x y : D) (h : Hs) (hx : Ex m x) (hy : Ex m y) : callN G (n + m + 1) "_law_exact" [x, y] h = .ok (.bl (decide (x = y))) h := exact_run (G := G) (fun n x y h => h_law_exact_eq n x y h) m n x y h hx hy
theorem c_shuffled (ns : List Int) (n : Nat) {T : Type} (enc : T → D) (hok : ∀ t n, (enc t).ok n = true) {h : Hs} (q : GoodS h) {xs : List T} (hl : xs.length ≤ 1000) :
    ∃ (ys : List T) (h' : Hs), callN G (n + 3) "_law_shuffled" [.loc 0 0, .scr ns, .lst (xs.map enc)] h = .ok (.lst (ys.map enc)) h' ∧ ys.Perm xs ∧ GoodS h' ∧ h'.length = h.length ∧ DnS h h' := by
  obtain ⟨ys, h', e, p⟩ := shuf_run (c_draw ns n) enc hok q (d := .lst (xs.map enc)) hl (by
    rw [list_own (xs := xs.map enc) rfl, mkL_t, if_pos (szle (by rw [List.length_map]; omega))]; rfl)
  exact ⟨ys, h', by rw [h_law_shuffled_eq]; exact e, p⟩
def k2 (p : Int × Int) : List Int := [p.1, p.2]
theorem sort_PP {d : D} {h : Hs} {xs : List (Int × Int)} (ho : d.items h = some (xs.map encP)) (hl : xs.length ≤ 1000000) (b : Bool) : bltD b .sorted [d] h = mkL b ((srtP xs).map encP) h := by
  have e : srtI (xs.map k2) = (srtP xs).map k2 := by
    refine srtI_of ((srtP_perm xs).map k2) ?_
    rw [List.pairwise_map]
    refine (srtP_sorted xs).imp fun {a b} hab => ?_
    rw [lexP_iff] at hab
    show ([a.1, a.2] : List Int) ≤ [b.1, b.2]
    rw [List.cons_le_cons_iff, List.cons_le_cons_iff]
    rcases hab with h1 | ⟨h1, h2⟩
    · exact .inl h1
    · refine .inr ⟨h1, ?_⟩
      by_cases h3 : a.2 = b.2
      · exact .inr ⟨h3, List.le_refl _⟩
      · exact .inl (by omega)
  have e2 : (srtI (xs.map k2)).map encI = (srtP xs).map encP := by rw [e, List.map_map]; rfl
  rw [← e2]
  exact sort_I (L := xs.map k2) (by rw [List.map_map]; exact ho) (fun g hg => by obtain ⟨x, _, rfl⟩ := List.mem_map.mp hg; exact List.cons_ne_nil _ _) (by rw [List.length_map]; exact hl) b
def thereB (busy : Int) (v : I3) (t : Int) : Bool := decide (v.2.1 ≤ t) && decide (t ≤ v.2.2 + busy - 1)
theorem c_at_tick (n : Nat) (h : Hs) (v : I3) (busy t : Int) : callN G (n + 1) "at_tick" [enc3 v, .int busy, .int t] h = .ok (.bl (thereB busy v t)) h := by
  rw [h_at_tick_eq]
  refine fin_e fun Q K => ?_
  unfold thereB at K
  by_cases c : v.2.1 ≤ t
  · simp [h_at_tick, enc3, c]
    rw [decide_eq_true c, Bool.true_and] at K
    exact K.r rfl ⟨rfl, rfl⟩
  · simp [h_at_tick, enc3, c]
    rw [decide_eq_false c, Bool.false_and] at K
    exact K.r rfl ⟨rfl, rfl⟩
end P_k74

namespace P_k74
open PySem PySem.Spec PyProof.Rows L2 Bk
def wins (vs : List I3) (code : Int) : List I3 := vs.filter fun v => decide (v.1 = code)
def timeT (busy t : Int) (v : I3) : Int := if thereB busy v t = true then (if v.2.1 < t - busy + 1 then t - busy + 1 else v.2.1) else v.2.1
def times (vs : List I3) (busy code t : Int) : List Int := (wins vs code).map (timeT busy t)
theorem times_snoc (vs : List I3) (v : I3) (busy code t : Int) : times (vs ++ [v]) busy code t = times vs busy code t ++ if v.1 = code then [timeT busy t v] else [] := by
  unfold times wins
  rw [List.filter_append, List.map_append]
  congr 1
  by_cases c : v.1 = code
  · simp [c]
  · simp [c]
theorem times_len (vs : List I3) (busy code t : Int) : (times vs busy code t).length ≤ vs.length := by
  unfold times wins
  rw [List.length_map]
  exact List.length_filter_le _ _
theorem c_times_for (n : Nat) (h : Hs) {d : D} {vs : List I3} (ho : d.own h = some (vs.map enc3)) (hl : vs.length ≤ 1000) (busy code t : Int) : callN G (n + 2) "times_for" [d, .int busy, .int code, .int t] h = .ok (.lst ((times vs busy code t).map .int)) h := by
  rw [h_times_for_eq]
  refine fin_e fun Q K => ?_
  have s0 : 0 ≤ sizeLine := Nat.zero_le _
  obtain ⟨w, ew, wm, wn⟩ := walk_own (d := d) (h := [.lst []] :: h) (own_cons ho)
  simp [h_times_for, s0, ew]
  refine w_seq enc3 (fun r S H => ∃ (x5 x6 : Option D) (pre : List I3), S = [some d, some (.int busy), some (.int code), some (.int t), some (.loc h.length 0), x5, x6] ∧ H = [.lst ((times pre busy code t).map .int)] :: h ∧ pre ++ r = vs) rfl wm (fun r s H q i => by obtain ⟨_, _, _, _, rfl, _⟩ := q; exact wn i _ (own_cons ho)) ⟨_, _, [], rfl, rfl, rfl⟩ ?_ ?_
  · rintro v r S H hv ⟨x5, x6, pre, rfl, rfl, hp⟩ Q1 K1
    have plen : pre.length ≤ 999 := by
      have := congrArg List.length hp
      simp at this
      omega
    have at1 := fun H => c_at_tick n H v busy t
    simp only [enc3] at at1
    have ts := times_snoc pre v busy code t
    have tl := times_len pre busy code t
    by_cases c : v.1 = code
    · rw [if_pos c] at ts
      simp only [c] at at1
      have ap := app_row (T := [.lst ((times pre busy code t).map .int)]) (X := h) (L := h.length) (k := 0) (xs := (times pre busy code t).map .int) (y := .int (timeT busy t v)) rfl rfl (by rw [List.length_map]; omega) (oks_ints _ _) rfl
      have e : (times pre busy code t).map D.int ++ [D.int (timeT busy t v)] = (times (pre ++ [v]) busy code t).map .int := by rw [ts]; simp
      rw [e] at ap
      simp only [List.set_cons_zero] at ap
      have fin : Q1.n [some d, some (.int busy), some (.int code), some (.int t), some (.loc h.length 0), some (enc3 v), some (.bl (thereB busy v t))] ([.lst ((times (pre ++ [v]) busy code t).map .int)] :: h) := K1.n ⟨_, _, pre ++ [v], rfl, rfl, by simp [hp]⟩
      simp only [enc3, c] at fin
      have ht : timeT busy t v = if thereB busy v t = true then (if v.2.1 < t - busy + 1 then t - busy + 1 else v.2.1) else v.2.1 := rfl
      cases hb : thereB busy v t with
      | true =>
        rw [hb] at at1 fin ht
        rw [if_pos rfl] at ht
        rw [ht] at ap
        simp [-append_ap, h_times_for_b0, enc3, c, at1, ap]
        exact fin
      | false =>
        rw [hb] at at1 fin ht
        rw [if_neg Bool.false_ne_true] at ht
        rw [ht] at ap
        simp [-append_ap, h_times_for_b0, enc3, c, at1, ap]
        exact fin
    · rw [if_neg c, List.append_nil] at ts
      simp [h_times_for_b0, enc3, c]
      exact K1.n ⟨_, _, pre ++ [v], rfl, by rw [ts], by simp [hp]⟩
  · rintro S H ⟨x5, x6, pre, rfl, rfl, hp⟩
    rw [List.append_nil] at hp
    subst hp
    simp
    exact K.r (oks_ints _ _) ⟨rfl, rfl⟩
theorem sorted_ints (b : Bool) (h : Hs) (a : List Int) : bltD b .sorted [.lst (a.map .int)] h = mkL b ((sortI a).map .int) h := by
  show (match (some (a.map D.int)).bind D.ints with
    | some is => mkL b ((sortI is).map .int) h
    | none => _) = _
  rw [Option.bind_some, Bk.ints_map]
/-- the crowd at a tick -/
def cnt (vs : List I3) (busy code t : Int) : Nat := ((wins vs code).filter fun v => thereB busy v t).length
def stepF (c : Int → Nat) (b : Int × Int) (t : Int) : Int × Int := if b.1 < c t then ((c t : Int), t) else b
def bestF (c : Int → Nat) (l : List Int) : Int × Int := l.foldl (stepF c) (0, 0)
theorem bestF_snoc (c : Int → Nat) (l : List Int) (t : Int) : bestF c (l ++ [t]) = stepF c (bestF c l) t := by unfold bestF; rw [List.foldl_append]; rfl
def encD (vs : List I3) (busy code : Int) (b : Int × Int) : D := .tup [.int b.1, .int b.2, .lst ((times vs busy code b.2).map .int)]
def crowdB (vs : List I3) (busy code : Int) : Int × Int := bestF (cnt vs busy code) (sortI ((wins vs code).map fun v => v.2.1))
theorem c_crowd (n : Nat) (h : Hs) {d : D} {vs : List I3} (ho : d.own h = some (vs.map enc3)) (hl : vs.length ≤ 1000) (busy code : Int) : callN G (n + 3) "crowd" [d, .int busy, .int code] h = .ok (encD vs busy code (crowdB vs busy code)) h := by
  rw [h_crowd_eq]
  refine fin_e fun Q K => ?_
  obtain ⟨w, ew, wm, wn⟩ := walk_own (d := d) (h := [] :: h) (own_cons ho)
  have wl := List.length_filter_le (fun v : I3 => decide (v.1 = code)) vs
  have cf : ∀ (turn : D → Hs → Res (Option D)), _ := fun turn => comp_fmw (turn := turn) enc3 (fun v : I3 => D.int v.2.1) (fun v : I3 => decide (v.1 = code)) (w := w) (ts := vs) (h := [] :: h) rfl wm (fun i => wn i _ (own_cons ho)) (by omega)
  have em : (vs.filter fun v : I3 => decide (v.1 = code)).map (fun v : I3 => D.int v.2.1) = ((wins vs code).map fun v => v.2.1).map .int := by rw [List.map_map]; rfl
  rw [em] at cf
  have fl : ((wins vs code).map fun v => v.2.1).length ≤ 1000 := by rw [List.length_map]; unfold wins; omega
  simp [h_crowd, ew]
  rw [cf _ fun v hv => by
    by_cases c : v.1 = code
    · simp [cTurn, clear, enc3, c]
    · simp [cTurn, clear, enc3, c]]
  have eC : crowdB vs busy code = bestF (cnt vs busy code) (sortI ((wins vs code).map fun v => v.2.1)) := rfl
  rw [eC] at K
  generalize (wins vs code).map (fun v => v.2.1) = F at fl K ⊢
  have sF : F.length ≤ sizeLine := szle (by omega)
  have so := fun H => sorted_ints false H F
  have s2 : (sortI F).length ≤ sizeLine := by rw [(sortI_perm F).length_eq]; exact sF
  simp [sF, so, s2]
  refine for_seq D.int (fun r S H => ∃ (x4 x8 : Option D) (b : Int × Int) (pre : List Int), S = [some d, some (.int busy), some (.int code), some (.tup [.int b.1, .int b.2]), x4, none, none, none, x8, none] ∧ H = [] :: h ∧ b = bestF (cnt vs busy code) pre ∧ pre ++ r = sortI F) rfl ⟨_, _, (0, 0), [], rfl, rfl, rfl, rfl⟩ ?_ ?_
  · rintro t r S H ht ⟨x4, x8, b, pre, rfl, rfl, hb, hp⟩ Q1 K1
    have cf2 : ∀ (turn : D → Hs → Res (Option D)), _ := fun turn => comp_fmw (turn := turn) enc3 enc3 (fun v : I3 => decide (v.1 = code) && thereB busy v t) (w := w) (ts := vs) (h := [] :: h) rfl wm (fun i => wn i _ (own_cons ho)) (by omega)
    have ec : (vs.filter fun v : I3 => decide (v.1 = code) && thereB busy v t).length = cnt vs busy code t := by
      unfold cnt wins
      rw [List.filter_filter]
      congr 2
      funext v
      rw [Bool.and_comm]
    have cl : cnt vs busy code t ≤ 1000 := by rw [← ec]; exact Nat.le_trans (List.length_filter_le _ _) hl
    have bs := bestF_snoc (cnt vs busy code) pre t
    rw [← hb] at bs
    unfold stepF at bs
    simp [h_crowd_b0, ew]
    rw [cf2 _ fun v hv => by
      have at1 := fun H => c_at_tick (n + 1) H v busy t
      simp only [enc3] at at1
      by_cases c : v.1 = code
      · simp only [c] at at1
        cases hb : thereB busy v t with
        | true => rw [hb] at at1; simp [cTurn, clear, enc3, c, at1]
        | false => rw [hb] at at1; simp [cTurn, clear, enc3, c, at1]
      · simp [cTurn, clear, enc3, c]]
    generalize (vs.filter fun v : I3 => decide (v.1 = code) && thereB busy v t) = M at ec
    have sM : M.length ≤ sizeLine := szle (by omega)
    generalize cnt vs busy code t = m at ec bs cl
    have sm : m ≤ sizeLine := szle (by omega)
    by_cases c : b.1 < (m : Int)
    · rw [if_pos c] at bs
      simp [sM, ec, sm, c]
      exact K1.n ⟨_, _, ((m : Int), t), pre ++ [t], rfl, rfl, bs.symm, by simp [hp]⟩
    · rw [if_neg c] at bs
      simp [sM, ec, sm, c]
      exact K1.n ⟨_, _, b, pre ++ [t], rfl, rfl, bs.symm, by simp [hp]⟩
  · rintro S H ⟨x4, x8, b, pre, rfl, rfl, hb, hp⟩
    rw [List.append_nil] at hp
    subst hp
    have tf := c_times_for n ([] :: h) (own_cons ho) hl busy code b.2
    rw [← hb] at K
    simp [tf]
    exact K.r (by
      show (true && (true && (D.oks h.length ((times vs busy code b.2).map .int) && true))) = true
      rw [oks_ints]; rfl) ⟨rfl, rfl⟩
end P_k74

namespace P_k74
open PySem PySem.Spec PyProof.Rows L2 Bk
/-! ### the plain law -/
def BP (c : Int → Nat) (sn : List Int) (b : Int × Int) : Prop := ((∀ x ∈ sn, c x = 0) ∧ b = (0, 0)) ∨ ∃ t ∈ sn, b = ((c t : Int), t) ∧ 0 < c t ∧ (∀ x ∈ sn, c x ≤ c t) ∧ ∀ x ∈ sn, x < t → c x < c t
theorem bp_step {c : Int → Nat} {sn : List Int} {b : Int × Int} {t : Int} (p : BP c sn b) (hs : ∀ x ∈ sn, x ≤ t) : BP c (sn ++ [t]) (stepF c b t) := by
  unfold stepF
  rcases p with ⟨p1, rfl⟩ | ⟨u, hu, rfl, u0, um, ul⟩
  · by_cases h : (0 : Int) < c t
    · rw [if_pos h]
      refine .inr ⟨t, by simp, rfl, by omega, fun x hx => ?_, fun x hx hlt => ?_⟩
      · rcases List.mem_append.mp hx with hx | hx
        · rw [p1 x hx]; omega
        · rw [List.mem_singleton.mp hx]; omega
      · rcases List.mem_append.mp hx with hx | hx
        · rw [p1 x hx]; omega
        · rw [List.mem_singleton.mp hx] at hlt; omega
    · rw [if_neg h]
      refine .inl ⟨fun x hx => ?_, rfl⟩
      rcases List.mem_append.mp hx with hx | hx
      · exact p1 x hx
      · rw [List.mem_singleton.mp hx]; omega
  · by_cases h : (c u : Int) < c t
    · rw [if_pos h]
      refine .inr ⟨t, by simp, rfl, by omega, fun x hx => ?_, fun x hx hlt => ?_⟩
      · rcases List.mem_append.mp hx with hx | hx
        · have := um x hx; omega
        · rw [List.mem_singleton.mp hx]; omega
      · rcases List.mem_append.mp hx with hx | hx
        · have := um x hx; omega
        · rw [List.mem_singleton.mp hx] at hlt; omega
    · rw [if_neg h]
      refine .inr ⟨u, by simp [hu], rfl, u0, fun x hx => ?_, fun x hx hlt => ?_⟩
      · rcases List.mem_append.mp hx with hx | hx
        · exact um x hx
        · rw [List.mem_singleton.mp hx]; omega
      · rcases List.mem_append.mp hx with hx | hx
        · exact ul x hx hlt
        · rw [List.mem_singleton.mp hx] at hlt
          have := hs u hu
          omega
theorem bp_fold {c : Int → Nat} : ∀ (r sn : List Int) (b : Int × Int), BP c sn b → (sn ++ r).Pairwise (· ≤ ·) → BP c (sn ++ r) (r.foldl (stepF c) b)
  | [], sn, b, p, _ => by rw [List.append_nil]; exact p
  | t :: r, sn, b, p, h => by
    have h2 : (sn ++ [t] ++ r).Pairwise (· ≤ ·) := by rw [List.append_assoc]; exact h
    have := bp_fold r (sn ++ [t]) (stepF c b t) (bp_step p fun x hx => by
      have := (List.pairwise_append.mp h).2.2 x hx t List.mem_cons_self
      exact this) h2
    rw [List.append_assoc] at this
    exact this
theorem bp_best (c : Int → Nat) (l : List Int) (h : l.Pairwise (· ≤ ·)) : BP c l (bestF c l) := by
  have := bp_fold (c := c) l [] (0, 0) (.inl ⟨by simp, rfl⟩) (by simpa using h)
  unfold bestF
  simpa using this
/-- right visits -/
def Vok (vs : List I3) (busy : Int) : Prop := (1 ≤ busy ∧ busy ≤ 20) ∧ ∀ v ∈ vs, 0 ≤ v.2.1 ∧ v.2.1 ≤ v.2.2 ∧ v.2.2 ≤ 999
def ticks : List Int := (List.range 1020).map fun i : Nat => (i : Int)
theorem mem_ticks {t : Int} : t ∈ ticks ↔ 0 ≤ t ∧ t < 1020 := by
  unfold ticks
  rw [List.mem_map]
  constructor
  · rintro ⟨i, hi, rfl⟩
    have := List.mem_range.mp hi
    omega
  · intro h
    exact ⟨t.toNat, List.mem_range.mpr (by omega), by omega⟩
theorem ticks_asc : ticks.Pairwise (· ≤ ·) := by
  unfold ticks
  rw [List.pairwise_map]
  exact List.pairwise_lt_range.imp fun {a b} h => by omega
def dueB (vs : List I3) (busy code : Int) : Int × Int := bestF (cnt vs busy code) ticks
section
variable {vs : List I3} {busy code : Int}
theorem there_iff {v : I3} {t : Int} : thereB busy v t = true ↔ v.2.1 ≤ t ∧ t ≤ v.2.2 + busy - 1 := by
  unfold thereB
  rw [Bool.and_eq_true, decide_eq_true_eq, decide_eq_true_eq]
theorem wins_mem {v : I3} : v ∈ wins vs code → v ∈ vs := fun h => (List.mem_filter.mp h).1
theorem cnt_mono {s t : Int} (h : ∀ v ∈ wins vs code, thereB busy v s = true → thereB busy v t = true) : cnt vs busy code s ≤ cnt vs busy code t := by
  unfold cnt
  rw [← List.countP_eq_length_filter, ← List.countP_eq_length_filter]
  exact List.countP_mono_left h
theorem cnt_pos {t : Int} (h : 0 < cnt vs busy code t) : ∃ v ∈ wins vs code, thereB busy v t = true := by
  unfold cnt at h
  obtain ⟨v, hv⟩ := List.exists_mem_of_length_pos h
  exact ⟨v, (List.mem_filter.mp hv).1, (List.mem_filter.mp hv).2⟩
theorem cnt_zero {t : Int} (h : ∀ v ∈ wins vs code, thereB busy v t = false) : cnt vs busy code t = 0 := by
  unfold cnt
  rw [List.filter_eq_nil_iff.mpr fun v hv => by rw [h v hv]; simp]
  rfl
theorem crowd_due (ok : Vok vs busy) : crowdB vs busy code = dueB vs busy code := by
  have p1 := bp_best (cnt vs busy code) ticks ticks_asc
  have p2 := bp_best (cnt vs busy code) (sortI ((wins vs code).map fun v => v.2.1)) (sortI_sorted _)
  have m2 : ∀ t, t ∈ sortI ((wins vs code).map fun v => v.2.1) ↔ ∃ v ∈ wins vs code, v.2.1 = t := fun t => by
    rw [(sortI_perm _).mem_iff, List.mem_map]
  change BP _ _ (dueB vs busy code) at p1
  change BP _ _ (crowdB vs busy code) at p2
  have sub : ∀ t, t ∈ sortI ((wins vs code).map fun v => v.2.1) → t ∈ ticks := fun t ht => by
    obtain ⟨v, hv, rfl⟩ := (m2 t).mp ht
    have := ok.2 v (wins_mem hv)
    exact mem_ticks.mpr (by omega)
  rcases p1 with ⟨p1, e1⟩ | ⟨t1, ht1, e1, q1, r1, s1⟩
  · rcases p2 with ⟨p2, e2⟩ | ⟨t2, ht2, e2, q2, r2, s2⟩
    · rw [e1, e2]
    · have := p1 t2 (sub t2 ht2); omega
  · have h1 : t1 ∈ sortI ((wins vs code).map fun v => v.2.1) := by
      refine Classical.byContradiction fun hn => ?_
      have hn' : ∀ v ∈ wins vs code, v.2.1 ≠ t1 := fun v hv e => hn ((m2 t1).mpr ⟨v, hv, e⟩)
      obtain ⟨v0, hv0, h0⟩ := cnt_pos q1
      have b0 := there_iff.mp h0
      have n0 := hn' v0 hv0
      have k0 := ok.2 v0 (wins_mem hv0)
      have le := cnt_mono (vs := vs) (busy := busy) (code := code) (s := t1) (t := t1 - 1) fun v hv hb => by
        have b := there_iff.mp hb
        have n := hn' v hv
        exact there_iff.mpr (by omega)
      have := s1 (t1 - 1) (mem_ticks.mpr (by have := mem_ticks.mp ht1; omega)) (by omega)
      omega
    rcases p2 with ⟨p2, e2⟩ | ⟨t2, ht2, e2, q2, r2, s2⟩
    · have := p2 t1 h1; omega
    · have a1 := r2 t1 h1
      have a2 := r1 t2 (sub t2 ht2)
      have : t1 = t2 := by
        rcases Int.lt_trichotomy t1 t2 with h | h | h
        · have := s2 t1 h1 h; omega
        · exact h
        · have := s1 t2 (sub t2 ht2) h; omega
      rw [e1, e2, this]
theorem due_eq (ok : Vok vs busy) : (dueB vs busy code).1 = cnt vs busy code (dueB vs busy code).2 := by
  have p1 := bp_best (cnt vs busy code) ticks ticks_asc
  change BP _ _ (dueB vs busy code) at p1
  rcases p1 with ⟨p1, e1⟩ | ⟨t1, ht1, e1, q1, r1, s1⟩
  · rw [e1]
    have := p1 0 (mem_ticks.mpr (by omega))
    simp only [this]
    rfl
  · rw [e1]
theorem due_max (ok : Vok vs busy) (t : Int) : (cnt vs busy code t : Int) ≤ (dueB vs busy code).1 := by
  have p1 := bp_best (cnt vs busy code) ticks ticks_asc
  change BP _ _ (dueB vs busy code) at p1
  by_cases ht : 0 ≤ t ∧ t < 1020
  · rcases p1 with ⟨p1, e1⟩ | ⟨t1, ht1, e1, q1, r1, s1⟩
    · rw [e1, p1 t (mem_ticks.mpr ht)]; simp
    · rw [e1]
      have := r1 t (mem_ticks.mpr ht)
      simp only
      omega
  · have z : cnt vs busy code t = 0 := cnt_zero fun v hv => by
      have k := ok.2 v (wins_mem hv)
      have k1 := ok.1
      cases hb : thereB busy v t with
      | false => rfl
      | true => have := there_iff.mp hb; omega
    have := due_eq (code := code) ok
    omega
end
/-! ### times that are told -/
def cntT (busy tick : Int) (ts : List Int) : Nat := (ts.filter fun x => decide (x ≤ tick) && decide (tick < x + busy)).length
def fitT (x : Int × I3) : Bool := decide (x.2.2.1 ≤ x.1) && decide (x.1 ≤ x.2.2.2)
def showsT (vs : List I3) (busy code tick : Int) (ts : List Int) : Int := if ts.length = (wins vs code).length ∧ (ts.zip (wins vs code)).all fitT = true then cntT busy tick ts else -1
theorem cntT_le (busy tick : Int) : ∀ (ts : List Int) (ws : List I3), ts.length = ws.length → (ts.zip ws).all fitT = true → cntT busy tick ts ≤ (ws.filter fun v => thereB busy v tick).length
  | [], [], _, _ => Nat.le_refl _
  | t :: ts, v :: ws, hl, ha => by
    rw [List.zip_cons_cons, List.all_cons, Bool.and_eq_true] at ha
    have ih := cntT_le busy tick ts ws (by simpa using hl) ha.2
    have hf : v.2.1 ≤ t ∧ t ≤ v.2.2 := by
      have := ha.1
      unfold fitT at this
      simpa using this
    unfold cntT at ih ⊢
    cases h1 : (decide (t ≤ tick) && decide (tick < t + busy)) with
    | true =>
      have : t ≤ tick ∧ tick < t + busy := by simpa using h1
      have hb : thereB busy v tick = true := there_iff.mpr (by omega)
      rw [List.filter_cons_of_pos (p := fun x => decide (x ≤ tick) && decide (tick < x + busy)) h1, List.filter_cons_of_pos (p := fun v => thereB busy v tick) hb]
      simp only [List.length_cons]
      omega
    | false =>
      rw [List.filter_cons_of_neg (p := fun x => decide (x ≤ tick) && decide (tick < x + busy)) (by simp only [h1]; simp)]
      rw [List.filter_cons]
      split
      · simp only [List.length_cons]; omega
      · exact ih
theorem shows_le {vs : List I3} {busy code : Int} (ok : Vok vs busy) (tick : Int) (ts : List Int) : showsT vs busy code tick ts ≤ (dueB vs busy code).1 := by
  have h0 := due_eq (code := code) ok
  unfold showsT
  split
  · rename_i h
    have h1 := cntT_le busy tick ts _ h.1 h.2
    have h2 := due_max (code := code) ok tick
    unfold cnt at h2
    omega
  · omega
theorem times_fit {busy t : Int} : ∀ ws : List I3, (1 ≤ busy) → (∀ v ∈ ws, v.2.1 ≤ v.2.2) → ((ws.map (timeT busy t)).zip ws).all fitT = true ∧ cntT busy t (ws.map (timeT busy t)) = (ws.filter fun v => thereB busy v t).length
  | [], _, _ => ⟨rfl, rfl⟩
  | v :: ws, hb, h => by
    obtain ⟨i1, i2⟩ := times_fit ws hb fun x hx => h x (List.mem_cons_of_mem _ hx)
    have hv := h v List.mem_cons_self
    have key : (v.2.1 ≤ timeT busy t v ∧ timeT busy t v ≤ v.2.2) ∧ ((timeT busy t v ≤ t ∧ t < timeT busy t v + busy) ↔ thereB busy v t = true) := by
      unfold timeT
      cases hc : thereB busy v t with
      | true =>
        have := there_iff.mp hc
        rw [if_pos rfl]
        split
        · exact ⟨by omega, ⟨fun _ => rfl, fun _ => by omega⟩⟩
        · exact ⟨by omega, ⟨fun _ => rfl, fun _ => by omega⟩⟩
      | false =>
        have hn : ¬ (v.2.1 ≤ t ∧ t ≤ v.2.2 + busy - 1) := fun z => by have := there_iff.mpr z; rw [hc] at this; cases this
        rw [if_neg Bool.false_ne_true]
        exact ⟨by omega, ⟨fun _ => by omega, fun z => by cases z⟩⟩
    refine ⟨?_, ?_⟩
    · rw [List.map_cons, List.zip_cons_cons, List.all_cons, Bool.and_eq_true]
      refine ⟨?_, i1⟩
      unfold fitT
      simp only [Bool.and_eq_true, decide_eq_true_eq]
      exact key.1
    · unfold cntT at i2 ⊢
      rw [List.map_cons]
      cases hc : thereB busy v t with
      | true =>
        rw [List.filter_cons_of_pos (by simp only [Bool.and_eq_true, decide_eq_true_eq]; exact key.2.mpr hc), List.filter_cons_of_pos (p := fun v => thereB busy v t) hc, List.length_cons, List.length_cons, i2]
      | false =>
        rw [List.filter_cons_of_neg (by simp only [Bool.and_eq_true, decide_eq_true_eq]; intro z; have := key.2.mp z; rw [hc] at this; cases this), List.filter_cons_of_neg (p := fun v => thereB busy v t) (by rw [hc]; simp), i2]
theorem shows_due {vs : List I3} {busy code : Int} (ok : Vok vs busy) : showsT vs busy code (dueB vs busy code).2 (times vs busy code (dueB vs busy code).2) = (dueB vs busy code).1 := by
  obtain ⟨h1, h2⟩ := times_fit (busy := busy) (t := (dueB vs busy code).2) (wins vs code) ok.1.1 fun v hv => (ok.2 v (wins_mem hv)).2.1
  unfold showsT times
  rw [if_pos ⟨by rw [List.length_map], h1⟩, h2, due_eq ok]
  rfl
end P_k74

namespace P_k74
open PySem PySem.Spec PyProof.Rows L2 Bk
theorem own_ix {d : D} {h : Hs} {xs : List D} (ho : d.own h = some xs) (i : Int) : ixD d (.int i) h = match atI xs i with | some v => .ok v h | none => .bad := by
  cases d with
  | lst ys => cases ho; rfl
  | loc l k =>
    have ho : cur h l k = some xs := ho
    exact ix_loc (cur_iff.mp ho) i
  | _ => cases ho
theorem own_zip {d : D} {h : Hs} {xs ys : List D} (ho : d.own h = some xs) : zipD d (.lst ys) h = .ok (zipL xs ys) h := by
  cases d with
  | lst zs => cases ho; rfl
  | loc l k =>
    have ho : cur h l k = some xs := ho
    show (match (D.loc l k).items h, (D.lst ys).items h with
      | some xs, some ys => Res.ok (zipL xs ys) h
      | _, _ => .bad) = _
    have : (D.loc l k).items h = some xs := ho
    rw [this]
    rfl
  | _ => cases ho
theorem zip_enc (o : List Int) (ds : List I3) : zipL (o.map .int) (ds.map enc3) = (o.zip ds).map fun x => D.tup [.int x.1, .tup [.int x.2.1, .int x.2.2.1, .int x.2.2.2]] := by
  unfold zipL
  rw [List.zip_map, List.map_map]
  rfl
theorem c_shows_crowd (n : Nat) (h : Hs) {d d' : D} {vs : List I3} {ts : List Int} (ho : d.own h = some (vs.map enc3)) (ho' : d'.own h = some (ts.map .int)) (hl : vs.length ≤ 1000) (hl' : ts.length ≤ 1000) (busy code tick : Int) : callN G (n + 1) "shows_crowd" [d, .int busy, .int code, .int tick, d'] h = .ok (.int (showsT vs busy code tick ts)) h := by
  rw [h_shows_crowd_eq]
  refine fin_e fun Q K => ?_
  have o1 : d.own ([] :: h) = some (vs.map enc3) := own_cons ho
  have o2 : d'.own ([] :: h) = some (ts.map .int) := own_cons ho'
  obtain ⟨w, ew, wm, wn⟩ := walk_own (d := d) (h := [] :: h) o1
  obtain ⟨w', ew', wm', wn'⟩ := walk_own (d := d') (h := [] :: h) o2
  have cf : ∀ (turn : D → Hs → Res (Option D)), _ := fun turn => comp_fmw (turn := turn) enc3 enc3 (fun v : I3 => decide (v.1 = code)) (w := w) (ts := vs) (h := [] :: h) rfl wm (fun i => wn i _ o1) (by omega)
  have wl : (wins vs code).length ≤ 1000 := Nat.le_trans (List.length_filter_le _ _) hl
  have ew0 : vs.filter (fun v : I3 => decide (v.1 = code)) = wins vs code := rfl
  rw [ew0] at cf
  have es : showsT vs busy code tick ts = if ts.length = (wins vs code).length ∧ (ts.zip (wins vs code)).all fitT = true then (cntT busy tick ts : Int) else -1 := rfl
  rw [es] at K
  have ln := len_own o2 false
  rw [List.length_map] at ln
  simp [h_shows_crowd, ew]
  rw [cf _ fun v hv => by
    by_cases c : v.1 = code
    · simp [cTurn, clear, enc3, c]
    · simp [cTurn, clear, enc3, c]]
  generalize wins vs code = W at wl K ⊢
  have sW : W.length ≤ sizeLine := szle (by omega)
  by_cases hlen : ts.length = W.length
  · have hl2 : (ts.length : Int) = W.length := by omega
    have hz := own_zip (ys := W.map enc3) o2
    have g1 := gen_all (bd := []) (own := ["last", "first", "_", "time"]) (w := gwZip (rd 4) (rd 5)) (e := xCmp (xV 1) [(.LtE, (xV 3)), (.LtE, (xV 0))]) (s := [some d, some (.int busy), some (.int code), some (.int tick), some d', some (.lst (W.map enc3)), none, none, none, none, none]) (h := [] :: h) (zipL (ts.map .int) (W.map enc3)) (fun x : Int × I3 => [.int x.2.2.2, .int x.2.2.1, .int x.2.1, .int x.1]) (ts.zip W) fitT rfl (by simp [hz]) (by
        rw [zip_enc]
        exact gPres_nest (fun x : Int × I3 => .int x.1) (fun x => [.int x.2.1, .int x.2.2.1, .int x.2.2.2]) (fun x => .int x.1) (fun x => [.int x.2.1, .int x.2.2.1, .int x.2.2.2]) fun t _ => ⟨rfl, rfl, rfl⟩) fun t ht => by
      simp only [xCmp, xC, xV, xChain, List.getElem?_cons_zero, List.getElem?_cons_succ, Option.bind_some, cmpP]
      unfold fitT
      cases decide (t.2.2.1 ≤ t.1) <;> rfl
    cases ha : (ts.zip W).all fitT with
    | false =>
      rw [if_neg (fun z => by rw [ha] at z; cases z.2)] at K
      rw [ha] at g1
      simp [sW, ln, hl2, g1]
      exact K.r rfl ⟨rfl, rfl⟩
    | true =>
      rw [if_pos ⟨hlen, ha⟩] at K
      rw [ha] at g1
      have cf2 : ∀ (turn : D → Hs → Res (Option D)), _ := fun turn => comp_fmw (turn := turn) D.int D.int (fun x : Int => decide (x ≤ tick) && decide (tick < x + busy)) (w := w') (ts := ts) (h := [] :: h) rfl wm' (fun i => wn' i _ o2) (by omega)
      have ec : cntT busy tick ts = (ts.filter fun x : Int => decide (x ≤ tick) && decide (tick < x + busy)).length := rfl
      have sl := List.length_filter_le (fun x : Int => decide (x ≤ tick) && decide (tick < x + busy)) ts
      rw [ec] at K
      simp [sW, ln, hl2, g1, ew']
      rw [cf2 _ fun x hx => by
        by_cases c1 : x ≤ tick
        · by_cases c2 : tick < x + busy
          · simp [cTurn, clear, c1, c2]
          · simp [cTurn, clear, c1, c2]
        · simp [cTurn, clear, c1]]
      generalize (ts.filter fun x : Int => decide (x ≤ tick) && decide (tick < x + busy)) = M at sl K ⊢
      have sM : M.length ≤ sizeLine := szle (by omega)
      simp [sM]
      exact K.r rfl ⟨rfl, rfl⟩
  · rw [if_neg (fun z => hlen z.1)] at K
    have hl2 : ¬ (ts.length : Int) = W.length := by omega
    simp [sW, ln, hl2]
    exact K.r rfl ⟨rfl, rfl⟩
end P_k74

namespace P_k74
open PySem PySem.Spec PyProof.Rows L2 Bk
def bv (bs : List Int) (i : Nat) : Int := bs.getD i 0
theorem bv_at {row : List Int} {g : Nat} (hg : g < row.length) : atI (row.map D.int) (g : Int) = some (.int (bv row g)) := by
  rw [Bk.atI_nat, List.getElem?_map]
  unfold bv
  rw [List.getElem?_eq_getElem hg, List.getD_eq_getElem?_getD, List.getElem?_eq_getElem hg]
  rfl
theorem sum_lst (b : Bool) (ts : List Int) (h : Hs) : bltD b .sum [.lst (ts.map .int)] h = .ok (.int ts.sum) h := by
  show (match (some (ts.map D.int)).bind D.ints with | some is => Res.ok (D.int is.sum) h | none => _) = _
  rw [Option.bind_some, Bk.ints_map]
theorem cnt_sum (busy tick : Int) : ∀ ts : List Int, (ts.map fun x => if x ≤ tick ∧ tick ≤ x + busy - 1 then (1 : Int) else 0).sum = cntT busy tick ts
  | [] => rfl
  | x :: ts => by
    have ih := cnt_sum busy tick ts
    unfold cntT at ih ⊢
    rw [List.map_cons, List.sum_cons, ih, List.filter_cons]
    by_cases c : x ≤ tick ∧ tick ≤ x + busy - 1
    · have c2 : (decide (x ≤ tick) && decide (tick < x + busy)) = true := by simp; omega
      rw [if_pos c, if_pos c2, List.length_cons]
      omega
    · have c2 : ¬ (decide (x ≤ tick) && decide (tick < x + busy)) = true := by simp; omega
      rw [if_neg c, if_neg c2]
      omega
theorem c_law_counted (n : Nat) (h : Hs) {d d' : D} {vs : List I3} {ts : List Int} (ho : d.own h = some (vs.map enc3)) (ho' : d'.own h = some (ts.map .int)) (hl : vs.length ≤ 1000) (hl' : ts.length ≤ 1000) (busy code tick : Int) : callN G (n + 1) "_law_counted" [d, .int busy, .int code, .int tick, d'] h = .ok (.int (showsT vs busy code tick ts)) h := by
  rw [h_law_counted_eq]
  refine fin_e fun Q K => ?_
  have o1 : d.own ([] :: h) = some (vs.map enc3) := own_cons ho
  have o2 : d'.own ([] :: h) = some (ts.map .int) := own_cons ho'
  obtain ⟨w, ew, wm, wn⟩ := walk_own (d := d) (h := [] :: h) o1
  obtain ⟨w', ew', wm', wn'⟩ := walk_own (d := d') (h := [] :: h) o2
  have cf : ∀ (turn : D → Hs → Res (Option D)), _ := fun turn => comp_fmw (turn := turn) enc3 enc3 (fun v : I3 => decide (v.1 = code)) (w := w) (ts := vs) (h := [] :: h) rfl wm (fun i => wn i _ o1) (by omega)
  have wl : (wins vs code).length ≤ 1000 := Nat.le_trans (List.length_filter_le _ _) hl
  have ew0 : vs.filter (fun v : I3 => decide (v.1 = code)) = wins vs code := rfl
  rw [ew0] at cf
  have es : showsT vs busy code tick ts = if ts.length = (wins vs code).length ∧ (ts.zip (wins vs code)).all fitT = true then (cntT busy tick ts : Int) else -1 := rfl
  rw [es] at K
  have ln := len_own o2 false
  rw [List.length_map] at ln
  simp [h_law_counted, ew]
  rw [cf _ fun v hv => by
    by_cases c : v.1 = code
    · simp [cTurn, clear, enc3, c]
    · simp [cTurn, clear, enc3, c]]
  generalize wins vs code = W at wl K ⊢
  have sW : W.length ≤ sizeLine := szle (by omega)
  by_cases hlen : ts.length = W.length
  · have hl2 : (ts.length : Int) = W.length := by omega
    have w1 := fun H => wr1_nat (k := W.length) (by omega) H
    have zl : (ts.zip W).length = W.length := by rw [List.length_zip]; omega
    simp [sW, ln, hl2, w1]
    refine rng_seq (fun i : Nat => D.int (i : Int)) W.length (fun i S H => ∃ x7 : Option D, S = [some d, some (.int busy), some (.int code), some (.int tick), some d', some (.lst (W.map enc3)), none, x7] ∧ H = [] :: h ∧ ∀ x ∈ (ts.zip W).take i, fitT x = true) ⟨_, rfl, rfl, by simp⟩ ?_ ?_
    · rintro i S H hi ⟨x7, rfl, rfl, hf⟩ Q1 K1
      have hit : i < ts.length := by omega
      have hiz : i < (ts.zip W).length := by omega
      have b1 := bv_at hit
      have ad : atI (W.map enc3) (i : Int) = some (enc3 W[i]) := by
        rw [Bk.atI_nat, List.getElem?_map, List.getElem?_eq_getElem hi]; rfl
      have ix := own_ix o2 (i : Int)
      rw [b1] at ix
      have ez : (ts.zip W)[i] = (bv ts i, W[i]) := by
        rw [List.getElem_zip]
        unfold bv
        rw [List.getD_eq_getElem?_getD, List.getElem?_eq_getElem hit]; rfl
      have et : (ts.zip W).take (i + 1) = (ts.zip W).take i ++ [(bv ts i, W[i])] := by rw [List.take_succ, List.getElem?_eq_getElem hiz, ez]; rfl
      have hmem : (bv ts i, W[i]) ∈ ts.zip W := by rw [← ez]; exact List.getElem_mem hiz
      rw [et] at K1
      generalize bv ts i = x at ix hmem K1
      generalize W[i] = v at ad hmem K1
      have bad : fitT (x, v) = false → Q1.r (.int (-1)) ([] :: h) := fun z => K1.r (by
        rw [if_neg (fun y => by have := List.all_eq_true.mp y.2 _ hmem; rw [z] at this; cases this)] at K
        exact K.r rfl ⟨rfl, rfl⟩)
      by_cases c1 : x < v.2.1
      · simp [h_law_counted_b1, ix, ad, enc3, c1]
        exact bad (by unfold fitT; simp; omega)
      · by_cases c2 : v.2.2 < x
        · simp [h_law_counted_b1, ix, ad, enc3, c1, c2]
          exact bad (by unfold fitT; simp; omega)
        · simp [h_law_counted_b1, ix, ad, enc3, c1, c2]
          refine K1.n ⟨_, rfl, rfl, fun y hy => ?_⟩
          rcases List.mem_append.mp hy with hy | hy
          · exact hf y hy
          · rw [List.mem_singleton.mp hy]
            unfold fitT
            simp
            omega
    · rintro S H ⟨x7, rfl, rfl, hf⟩
      rw [List.take_of_length_le (by omega)] at hf
      rw [if_pos ⟨hlen, List.all_eq_true.mpr hf⟩] at K
      have cm : ∀ (turn : D → Hs → Res (Option D)), _ := fun turn => comp_mapw (turn := turn) D.int (fun x : Int => D.int (if x ≤ tick ∧ tick ≤ x + busy - 1 then (1 : Int) else 0)) (w := w') (ts := ts) (h := [] :: h) rfl wm' (fun i => wn' i _ o2) (by omega)
      have em : ts.map (fun x : Int => D.int (if x ≤ tick ∧ tick ≤ x + busy - 1 then (1 : Int) else 0)) = (ts.map fun x : Int => if x ≤ tick ∧ tick ≤ x + busy - 1 then (1 : Int) else 0).map .int := by rw [List.map_map]; rfl
      rw [em] at cm
      have cs := cnt_sum busy tick ts
      have sl : (ts.map fun x : Int => if x ≤ tick ∧ tick ≤ x + busy - 1 then (1 : Int) else 0).length ≤ sizeLine := szle (by rw [List.length_map]; omega)
      have eb : ∀ b H, bltD false .int [.bl b] H = .ok (.int (if b then 1 else 0)) H := fun _ _ => rfl
      simp [ew']
      rw [cm _ fun x hx => by
        by_cases c1 : x ≤ tick
        · by_cases c2 : tick ≤ x + busy - 1
          · simp [cTurn, clear, c1, c2, eb]
          · simp [cTurn, clear, c1, c2, eb]
        · simp [cTurn, clear, c1, eb]]
      generalize (ts.map fun x : Int => if x ≤ tick ∧ tick ≤ x + busy - 1 then (1 : Int) else 0) = M at cs sl ⊢
      have sm := fun H => sum_lst false M H
      rw [← cs] at K
      simp [sl, sm]
      exact K.r rfl ⟨rfl, rfl⟩
  · rw [if_neg (fun z => hlen z.1)] at K
    have hl2 : ¬ (ts.length : Int) = W.length := by omega
    simp [sW, ln, hl2]
    exact K.r rfl ⟨rfl, rfl⟩
end P_k74

namespace P_k74
open PySem PySem.Spec PyProof.Rows L2 Bk
theorem c_law_due (n : Nat) (h : Hs) {d : D} {vs : List I3} (ho : d.own h = some (vs.map enc3)) (hl : vs.length ≤ 1000) (busy code : Int) : callN G (n + 1) "_law_due" [d, .int busy, .int code] h = .ok (encD vs busy code (dueB vs busy code)) h := by
  rw [h_law_due_eq]
  refine fin_e fun Q K => ?_
  have o1 : d.own ([] :: h) = some (vs.map enc3) := own_cons ho
  obtain ⟨w, ew, wm, wn⟩ := walk_own (d := d) (h := [] :: h) o1
  have cf : ∀ (turn : D → Hs → Res (Option D)), _ := fun turn => comp_fmw (turn := turn) enc3 enc3 (fun v : I3 => decide (v.1 = code)) (w := w) (ts := vs) (h := [] :: h) rfl wm (fun i => wn i _ o1) (by omega)
  have wl : (wins vs code).length ≤ 1000 := Nat.le_trans (List.length_filter_le _ _) hl
  have ew0 : vs.filter (fun v : I3 => decide (v.1 = code)) = wins vs code := rfl
  rw [ew0] at cf
  have eC : ∀ t, cnt vs busy code t = ((wins vs code).filter fun v => thereB busy v t).length := fun _ => rfl
  have eT : ∀ t, times vs busy code t = (wins vs code).map (timeT busy t) := fun _ => rfl
  have eD : dueB vs busy code = bestF (cnt vs busy code) ticks := rfl
  have eE : ∀ b, encD vs busy code b = .tup [.int b.1, .int b.2, .lst ((times vs busy code b.2).map .int)] := fun _ => rfl
  rw [eE, eD] at K
  have hr4 : ∀ H, walkRng (.int 0) (.int 1020) H = .ok (Wk.of ((List.range 1020).map fun i : Nat => .int (i : Int))) H := fun H => wr1_nat (k := 1020) (by decide) H
  have s0 : 0 ≤ sizeLine := Nat.zero_le _
  generalize h4 : (List.range 1020).map (fun i : Nat => D.int (i : Int)) = r4 at hr4
  simp [h_law_due, ew]
  rw [cf _ fun v hv => by
    by_cases c : v.1 = code
    · simp [cTurn, clear, enc3, c]
    · simp [cTurn, clear, enc3, c]]
  generalize cnt vs busy code = cn at eC K ⊢
  generalize times vs busy code = tm at eT K ⊢
  generalize wins vs code = W at wl eC eT ⊢
  have sW : W.length ≤ sizeLine := szle (by omega)
  simp [sW, hr4]
  subst h4
  refine rng_seq (fun i : Nat => D.int (i : Int)) 1020 (fun i S H => ∃ (x6 x7 : Option D) (b : Int × Int), S = [some d, some (.int busy), some (.int code), some (.lst (W.map enc3)), none, some (.tup [.int b.1, .int b.2]), x6, x7, none, none, none] ∧ H = [] :: h ∧ b = bestF cn ((List.range i).map fun i : Nat => (i : Int))) ⟨_, _, (0, 0), rfl, rfl, rfl⟩ ?_ ?_
  · rintro i S H hi ⟨x6, x7, b, rfl, rfl, hb⟩ Q1 K1
    have bs := bestF_snoc cn ((List.range i).map fun i : Nat => (i : Int)) (i : Int)
    have er : (List.range (i + 1)).map (fun i : Nat => (i : Int)) = (List.range i).map (fun i : Nat => (i : Int)) ++ [(i : Int)] := by rw [List.range_succ, List.map_append]; rfl
    rw [← er, ← hb] at bs
    unfold stepF at bs
    have cf2 : ∀ (turn : D → Hs → Res (Option D)) (H : Hs), _ := fun turn H => comp_fm (turn := turn) enc3 enc3 (fun v : I3 => thereB busy v (i : Int)) (ts := W) (h := H) rfl (by omega)
    have sl := List.length_filter_le (fun v : I3 => thereB busy v (i : Int)) W
    have ec := eC (i : Int)
    simp [h_law_due_b1]
    rw [cf2 _ _ fun v hv => by
      have hth : thereB busy v (i : Int) = (decide (v.2.1 ≤ (i : Int)) && decide ((i : Int) ≤ v.2.2 + busy - 1)) := rfl
      rw [hth]
      by_cases c1 : v.2.1 ≤ (i : Int)
      · by_cases c2 : (i : Int) ≤ v.2.2 + busy - 1
        · simp [cTurn, clear, enc3, c1, c2]
        · simp [cTurn, clear, enc3, c1, c2]
      · simp [cTurn, clear, enc3, c1]]
    generalize (W.filter fun v : I3 => thereB busy v (i : Int)) = M at ec sl
    generalize cn (i : Int) = m at ec bs
    subst ec
    have sm : M.length ≤ sizeLine := szle (by omega)
    by_cases c : b.1 < (M.length : Int)
    · rw [if_pos c] at bs
      simp [sm, c]
      exact K1.n ⟨_, _, ((M.length : Int), (i : Int)), rfl, rfl, bs.symm⟩
    · rw [if_neg c] at bs
      simp [sm, c]
      exact K1.n ⟨_, _, b, rfl, rfl, bs.symm⟩
  · rintro S H ⟨x6, x7, b, rfl, rfl, hb⟩
    have hb : b = bestF cn ticks := hb
    rw [← hb] at K
    have ws : ∀ H, walkSeq (.lst (W.map enc3)) H = .ok (Wk.of (W.map enc3)) H := fun H => rfl
    simp [s0, ws]
    refine for_seq enc3 (fun r S H => ∃ (x2 x9 x10 : Option D) (pre : List I3), S = [some d, some (.int busy), x2, some (.lst (W.map enc3)), none, some (.tup [.int b.1, .int b.2]), x6, x7, some (.loc h.length 0), x9, x10] ∧ H = [.lst ((pre.map (timeT busy b.2)).map .int)] :: h ∧ pre ++ r = W) rfl ⟨_, _, _, [], rfl, rfl, rfl⟩ ?_ ?_
    · rintro v r S H hv ⟨x2, x9, x10, pre, rfl, rfl, hp⟩ Q1 K1
      have plen : pre.length ≤ 999 := by
        have := congrArg List.length hp
        simp at this
        omega
      have ap := app_row (T := [.lst ((pre.map (timeT busy b.2)).map .int)]) (X := h) (L := h.length) (k := 0) (xs := (pre.map (timeT busy b.2)).map .int) (y := .int (timeT busy b.2 v)) rfl rfl (by rw [List.length_map, List.length_map]; omega) (oks_ints _ _) rfl
      have e : (pre.map (timeT busy b.2)).map D.int ++ [D.int (timeT busy b.2 v)] = ((pre ++ [v]).map (timeT busy b.2)).map .int := by simp
      rw [e] at ap
      simp only [List.set_cons_zero] at ap
      have fin := K1.n (s := [some d, some (.int busy), some (.int v.1), some (.lst (W.map enc3)), none, some (.tup [.int b.1, .int b.2]), x6, x7, some (.loc h.length 0), some (.int v.2.1), some (.int v.2.2)]) ⟨_, _, _, pre ++ [v], rfl, rfl, by simp [hp]⟩
      have ht : timeT busy b.2 v = if thereB busy v b.2 = true then (if v.2.1 < b.2 - busy + 1 then b.2 - busy + 1 else v.2.1) else v.2.1 := rfl
      generalize (pre.map (timeT busy b.2)).map D.int = PL at ap ⊢
      generalize ((pre ++ [v]).map (timeT busy b.2)).map D.int = PN at ap fin
      by_cases c1 : v.2.1 ≤ b.2
      · by_cases c2 : b.2 ≤ v.2.2 + busy - 1
        · have hb2 : thereB busy v b.2 = true := there_iff.mpr ⟨c1, c2⟩
          rw [if_pos hb2] at ht
          rw [ht] at ap
          simp [-append_ap, h_law_due_b3, enc3, c1, c2, ap]
          exact fin
        · have hb2 : ¬ thereB busy v b.2 = true := fun z => c2 (there_iff.mp z).2
          rw [if_neg hb2] at ht
          rw [ht] at ap
          simp [-append_ap, h_law_due_b3, enc3, c1, c2, ap]
          exact fin
      · have hb2 : ¬ thereB busy v b.2 = true := fun z => c1 (there_iff.mp z).1
        rw [if_neg hb2] at ht
        rw [ht] at ap
        simp [-append_ap, h_law_due_b3, enc3, c1, ap]
        exact fin
    · rintro S H ⟨x2, x9, x10, pre, rfl, rfl, hp⟩
      rw [List.append_nil] at hp
      subst hp
      rw [eT] at K
      generalize hP : (pre.map (timeT busy b.2)).map D.int = PL at K ⊢
      simp
      exact K.r (by
        show (true && (true && (D.oks h.length PL && true))) = true
        rw [← hP, oks_ints]; rfl) ⟨rfl, rfl⟩
end P_k74

namespace P_k74
open PySem PySem.Spec PyProof.Rows L2 Bk
def shortF (vs : List I3) (busy : Int) (u : Int × Int) : Option D := if u.2 < (dueB vs busy u.1).1 then some (.tup [.str "short", .int u.1, .int (dueB vs busy u.1).2, .lst ((times vs busy u.1 (dueB vs busy u.1).2).map .int)]) else none
def suffT (vs : List I3) (busy : Int) (us : List (Int × Int)) : D := ((srtP us).findSome? (shortF vs busy)).getD (.tup [.str "enough"])
theorem short_ok {vs : List I3} {busy : Int} {u : Int × Int} {x : D} (e : shortF vs busy u = some x) (n : Nat) : x.ok n = true := by
  unfold shortF at e
  split at e
  · cases e
    show (true && (true && (true && (D.oks n ((times vs busy u.1 (dueB vs busy u.1).2).map .int) && true)))) = true
    rw [oks_ints]; rfl
  · cases e
theorem c_units (n : Nat) (h : Hs) {d : D} {vs : List I3} (ho : d.own h = some (vs.map enc3)) (hl : vs.length ≤ 1000) {busy : Int} (ok : Vok vs busy) (us : List (Int × Int)) (hu : us.length ≤ 1000) : callN G (n + 4) "units_suffice" [d, .int busy, .lst (us.map encP)] h = .ok (suffT vs busy us) h := by
  rw [h_units_suffice_eq]
  refine fin_e fun Q K => ?_
  have o1 : d.own ([] :: h) = some (vs.map enc3) := own_cons ho
  have so := fun H => sort_PP (d := .lst (us.map encP)) (h := H) (xs := us) rfl (by omega) false
  have eS : suffT vs busy us = ((srtP us).findSome? (shortF vs busy)).getD (.tup [.str "enough"]) := rfl
  have su : (srtP us).length ≤ sizeLine := szle (by rw [(srtP_perm us).length_eq]; omega)
  rw [eS] at K
  generalize srtP us = U at so su K
  simp [h_units_suffice, so, su]
  refine for_seq encP (fun r S H => ∃ (x3 x4 x5 x6 x7 : Option D), S = [some d, some (.int busy), some (.lst (us.map encP)), x3, x4, x5, x6, x7] ∧ H = [] :: h ∧ r.findSome? (shortF vs busy) = U.findSome? (shortF vs busy)) rfl ⟨_, _, _, _, _, rfl, rfl, rfl⟩ ?_ ?_
  · rintro u r S H hmem ⟨x3, x4, x5, x6, x7, rfl, rfl, hr⟩ Q1 K1
    have cc := c_crowd n ([] :: h) o1 hl busy u.1
    rw [crowd_due ok] at cc
    have eE : encD vs busy u.1 (dueB vs busy u.1) = .tup [.int (dueB vs busy u.1).1, .int (dueB vs busy u.1).2, .lst ((times vs busy u.1 (dueB vs busy u.1).2).map .int)] := rfl
    rw [eE] at cc
    have sf : shortF vs busy u = if u.2 < (dueB vs busy u.1).1 then some (.tup [.str "short", .int u.1, .int (dueB vs busy u.1).2, .lst ((times vs busy u.1 (dueB vs busy u.1).2).map .int)]) else none := rfl
    rw [List.findSome?_cons] at hr
    have eu : encP u = .tup [.int u.1, .int u.2] := rfl
    by_cases c : u.2 < (dueB vs busy u.1).1
    · rw [if_pos c] at sf
      have sok := short_ok sf h.length
      rw [sf] at hr
      rw [← hr] at K
      generalize (times vs busy u.1 (dueB vs busy u.1).2).map D.int = TL at cc sok K
      simp [eu, h_units_suffice_b0, cc, c]
      exact K1.r (K.r sok ⟨rfl, rfl⟩)
    · rw [if_neg c] at sf
      rw [sf] at hr
      simp [eu, h_units_suffice_b0, cc, c]
      exact K1.n ⟨_, _, _, _, _, rfl, rfl, hr⟩
  · rintro S H ⟨x3, x4, x5, x6, x7, rfl, rfl, hr⟩
    have hr : U.findSome? (shortF vs busy) = none := hr.symm
    rw [hr] at K
    simp
    exact K.r rfl ⟨rfl, rfl⟩
/-- the law's own way: the last of the short ones, backwards -/
theorem want_eq {T U : Type} (F : T → Option U) (e : U) : ∀ l : List T, l.reverse.foldl (fun w u => (F u).getD w) e = (l.findSome? F).getD e
  | [] => rfl
  | t :: l => by
    have ih := want_eq F e l
    rw [List.reverse_cons, List.foldl_append, ih]
    show (F t).getD ((l.findSome? F).getD e) = _
    rw [List.findSome?_cons]
    cases F t <;> rfl
end P_k74

namespace P_k74
open PySem PySem.Spec PyProof.Rows L2 Bk
theorem ex_same {x : D} (hx : Ex 2 x) (h : Hs) : callN G 11 "_law_exact" [x, x] h = .ok (.bl true) h := by
  rw [c_exact 2 8 x x h hx hx]
  simp
theorem ex_ints {xs : List Int} (hl : xs.length ≤ 1000) : Ex 1 (.lst (xs.map .int)) := .lst _ _ (by rw [List.length_map]; omega) fun y hy => by
  obtain ⟨i, _, rfl⟩ := List.mem_map.mp hy
  exact .int _ _
theorem ex_due {vs : List I3} {busy code : Int} {b : Int × Int} (hl : vs.length ≤ 1000) : Ex 2 (encD vs busy code b) := .tup _ _ (by show 3 ≤ _; decide) fun y hy => by
  simp at hy
  rcases hy with rfl | rfl | rfl
  · exact .int _ _
  · exact .int _ _
  · exact ex_ints (Nat.le_trans (times_len ..) hl)
def S22 (ns : List Int) (x3 x4 x5 x6 : Option D) (busy : Int) (x8 x9 x10 x11 x12 x13 x14 x15 x16 x17 x18 x19 x20 x21 : Option D) : Sl := [some (.scr ns), some (.loc 0 0), some (.loc 0 1), x3, x4, x5, x6, some (.int busy), x8, x9, x10, x11, x12, x13, x14, x15, x16, x17, x18, x19, x20, x21]
def RG (st : Int × Int) (vs : List I3) (kvs : List (Key × D)) (r : List Ob) : List Ob := stS st :: .lst (vs.map enc3) :: .dk kvs :: r
theorem RG_vis (st : Int × Int) (vs : List I3) (kvs : List (Key × D)) (r : List Ob) : (D.loc 0 1).own [RG st vs kvs r] = some (vs.map enc3) := row_own (X := []) (L := 0) rfl rfl
theorem RG_dr {ns : List Int} {call : Str → List D → Hs → Res D} (hc : DrawS ns call) (st : Int × Int) (vs : List I3) (kvs : List (Key × D)) (r : List Ob) {m : Int} (hm : 0 < m) (hm2 : m < 1073741824) : ∃ (v : Int) (st' : Int × Int), call "_law_draw" [.loc 0 0, .scr ns, .int m] [RG st vs kvs r] = .ok (.int v) [RG st' vs kvs r] ∧ 0 ≤ v ∧ v < m := by
  have := drawS_L hc st (Ob.lst (vs.map enc3) :: .dk kvs :: r) hm hm2
  exact this
theorem RG_at {st : Int × Int} {vs : List I3} {kvs : List (Key × D)} {r : List Ob} {q : Nat} {o : Ob} (h : r[q]? = some o) : (RG st vs kvs r)[3 + q]? = some o := by
  unfold RG
  rw [show 3 + q = q + 1 + 1 + 1 by omega]
  simpa using h
theorem RG_set (st : Int × Int) (vs : List I3) (kvs : List (Key × D)) (r : List Ob) (q : Nat) (o : Ob) : (RG st vs kvs r).set (3 + q) o = RG st vs kvs (r.set q o) := by
  unfold RG
  rw [show 3 + q = q + 1 + 1 + 1 by omega]
  rfl
theorem RG_len (st : Int × Int) (vs : List I3) (kvs : List (Key × D)) (r : List Ob) : (RG st vs kvs r).length = 3 + r.length := by
  unfold RG
  simp
  omega
theorem RG_app (st : Int × Int) (vs : List I3) (kvs : List (Key × D)) (r : List Ob) (o : Ob) : RG st vs kvs r ++ [o] = RG st vs kvs (r ++ [o]) := by
  unfold RG
  simp
/-- from the tick on -/
theorem ph_tick (ns : List Int) {Q : Po} {vs : List I3} (hl : vs.length ≤ 900) {busy code : Int} (ok : Vok vs busy) (st : Int × Int) (kvs : List (Key × D)) (r : List Ob) {q : Nat} {ts : List Int} (hq : r[q]? = some (.lst (ts.map .int))) (ht : ts.length ≤ 1000) {x3 x4 x5 x6 x8 x9 x12 x14 x15 x16 x17 x18 x19 x20 x21 : Option D}
    (K : ∀ st x17 x18, Q.n (S22 ns x3 x4 x5 x6 busy x8 x9 (some (.int code)) (some (encD vs busy code (dueB vs busy code))) x12 (some (.loc 0 (3 + q))) x14 x15 x16 x17 x18 x19 x20 x21) [RG st vs kvs r]) :
    (blk ((h_law_b2 (callN G 11)).drop 4) (S22 ns x3 x4 x5 x6 busy x8 x9 (some (.int code)) (some (encD vs busy code (dueB vs busy code))) x12 (some (.loc 0 (3 + q))) x14 x15 x16 x17 x18 x19 x20 x21) [RG st vs kvs r]).sat Q := by
  have hc := c_draw ns 9
  obtain ⟨v1, st1, e1, _, _⟩ := RG_dr hc st vs kvs r (m := 1020) (by decide) (by decide)
  obtain ⟨v2, st2, e2, _, _⟩ := RG_dr hc st1 vs kvs r (m := 9) (by decide) (by decide)
  obtain ⟨v3, st3, e3, v30, v31⟩ := RG_dr hc st2 vs kvs r (m := 4) (by decide) (by decide)
  have i0 : ∀ H, ixD (encD vs busy code (dueB vs busy code)) (.int 0) H = .ok (.int (dueB vs busy code).1) H := fun H => rfl
  have i1 : ∀ H, ixD (encD vs busy code (dueB vs busy code)) (.int 1) H = .ok (.int (dueB vs busy code).2) H := fun H => rfl
  generalize hE : encD vs busy code (dueB vs busy code) = E at i0 i1 K ⊢
  obtain ⟨tick, hp, _⟩ := pick4 v30 v31 (dueB vs busy code).2 v1 (-1) ((dueB vs busy code).2 + v2 - 4)
  have ow : (D.loc 0 (3 + q)).own [RG st3 vs kvs r] = some (ts.map .int) := row_own (X := []) (L := 0) rfl (RG_at hq)
  have a1 := c_law_counted 10 [RG st3 vs kvs r] (RG_vis st3 vs kvs r) ow (by omega) (by omega) busy code tick
  have a2 := c_shows_crowd 10 [RG st3 vs kvs r] (RG_vis st3 vs kvs r) ow (by omega) (by omega) busy code tick
  have le := shows_le (code := code) ok tick ts
  generalize showsT vs busy code tick ts = w at a1 a2 le
  have a3 := ex_same (.int 2 w) [RG st3 vs kvs r]
  have nle : ¬ (dueB vs busy code).1 < w := by omega
  simp [h_law_b2, S22, i1, e1, e2, e3, hp, a1, a2, a3, i0, nle]
  exact K _ _ _
end P_k74

namespace P_k74
open PySem PySem.Spec PyProof.Rows L2 Bk
/-- one turn of times -/
theorem ph_b2 (ns : List Int) {Q : Po} {vs : List I3} (hl : vs.length ≤ 900) {busy code : Int} (ok : Vok vs busy) (st : Int × Int) (kvs : List (Key × D)) (r : List Ob) {x3 x4 x5 x6 x8 x9 x12 x13 x14 x15 x16 x17 x18 x19 x20 x21 : Option D}
    (K : ∀ st r x13 x14 x15 x16 x17 x18, Q.n (S22 ns x3 x4 x5 x6 busy x8 x9 (some (.int code)) (some (encD vs busy code (dueB vs busy code))) x12 x13 x14 x15 x16 x17 x18 x19 x20 x21) [RG st vs kvs r]) :
    (blk (h_law_b2 (callN G 11)) (S22 ns x3 x4 x5 x6 busy x8 x9 (some (.int code)) (some (encD vs busy code (dueB vs busy code))) x12 x13 x14 x15 x16 x17 x18 x19 x20 x21) [RG st vs kvs r]).sat Q := by
  have hc := c_draw ns 9
  have fin : ∀ st (r : List Ob) (q : Nat) (ts : List Int) x14 x15 x16, r[q]? = some (.lst (ts.map .int)) → ts.length ≤ 1000 → (blk ((h_law_b2 (callN G 11)).drop 4) (S22 ns x3 x4 x5 x6 busy x8 x9 (some (.int code)) (some (encD vs busy code (dueB vs busy code))) x12 (some (.loc 0 (3 + q))) x14 x15 x16 x17 x18 x19 x20 x21) [RG st vs kvs r]).sat Q := fun st r q ts x14 x15 x16 hq ht =>
    ph_tick ns hl ok st kvs r hq ht fun st x17 x18 => K _ _ _ _ _ _ _ _
  generalize encD vs busy code (dueB vs busy code) = E at fin ⊢
  have s0 : 0 ≤ sizeLine := Nat.zero_le _
  have e0 := RG_app st vs kvs r (.lst [])
  have l0 := RG_len st vs kvs r
  obtain ⟨w, ew, wm, wn⟩ := walk_own (d := .loc 0 1) (h := [RG st vs kvs (r ++ [.lst []])]) (RG_vis _ _ _ _)
  -- what comes after the times
  have after : ∀ st (ts : List Int) x14, ts.length ≤ 900 → (blk ((h_law_b2 (callN G 11)).drop 2) (S22 ns x3 x4 x5 x6 busy x8 x9 (some (.int code)) (some E) x12 (some (.loc 0 (3 + r.length))) x14 x15 x16 x17 x18 x19 x20 x21) [RG st vs kvs (r ++ [.lst (ts.map .int)])]).sat Q := fun st ts x14 ht => by
    have rq : ∀ ts : List Int, (r ++ [Ob.lst (ts.map .int)])[r.length]? = some (.lst (ts.map .int)) := fun ts => by simp
    obtain ⟨kd, st1, e1, k0, k1⟩ := RG_dr hc st vs kvs (r ++ [.lst (ts.map .int)]) (m := 6) (by decide) (by decide)
    have rest4 := fun st r q ts x14 x15 x16 => fin st r q ts x14 x15 x16
    rw [show (h_law_b2 (callN G 11)).drop 2 = ((h_law_b2 (callN G 11)).drop 2).take 2 ++ (h_law_b2 (callN G 11)).drop 4 from rfl, blk_app]
    generalize (h_law_b2 (callN G 11)).drop 4 = rest at rest4 ⊢
    have ow : ∀ st, (D.loc 0 (3 + r.length)).own [RG st vs kvs (r ++ [.lst (ts.map .int)])] = some (ts.map .int) := fun st => row_own (X := []) (L := 0) rfl (RG_at (rq ts))
    have cu : ∀ st, cur [RG st vs kvs (r ++ [.lst (ts.map .int)])] 0 (3 + r.length) = some (ts.map .int) := fun st => ow st
    by_cases c0 : kd = 0
    · subst c0
      have sl : ts.length + 1 ≤ sizeLine := szle (by omega)
      have e2 := RG_app st1 vs kvs (r ++ [.lst (ts.map .int)]) (.lst ((ts ++ [5]).map .int))
      have l2 := RG_len st1 vs kvs (r ++ [.lst (ts.map .int)])
      have em : ts.map D.int ++ [D.int 5] = (ts ++ [5]).map .int := by simp
      have := rest4 st1 (r ++ [.lst (ts.map .int)] ++ [.lst ((ts ++ [5]).map .int)]) ((r ++ [Ob.lst (ts.map .int)]).length) (ts ++ [5]) x14 (some (.int 0)) x16 (by rw [List.getElem?_append_right (Nat.le_refl _), Nat.sub_self]; rfl) (by simp; omega)
      have sT : ((ts ++ [5]).map D.int).length ≤ sizeLine := szle (by simp; omega)
      generalize (ts ++ [5]).map D.int = TN at em e2 this sT
      simp [S22] at this
      have ll : (r ++ [Ob.lst (ts.map .int)]).length = r.length + 1 := by simp
      rw [ll] at l2
      simp [h_law_b2, S22, e1, cu, sl, em, e2, l2, sT]
      exact this
    · by_cases c1 : kd = 1
      · subst c1
        have tr : truthR (.loc 0 (3 + r.length)) [RG st1 vs kvs (r ++ [.lst (ts.map .int)])] = .ok (!(ts.map D.int).isEmpty) [RG st1 vs kvs (r ++ [.lst (ts.map .int)])] := truthR_loc (cur_iff.mp (cu st1))
        by_cases ct : ts = []
        · subst ct
          have tr : truthR (.loc 0 (3 + r.length)) [RG st1 vs kvs (r ++ [.lst (([] : List Int).map .int)])] = .ok false [RG st1 vs kvs (r ++ [.lst (([] : List Int).map .int)])] := tr
          have := rest4 st1 (r ++ [.lst (([] : List Int).map .int)]) r.length [] x14 (some (.int 1)) x16 (rq []) (by simp)
          simp only [List.map_nil] at e1 tr this ⊢
          simp [S22] at this
          simp [h_law_b2, S22, e1, tr]
          exact this
        · have hp : 0 < ts.length := List.length_pos_iff.mpr ct
          have tr : truthR (.loc 0 (3 + r.length)) [RG st1 vs kvs (r ++ [.lst (ts.map .int)])] = .ok true [RG st1 vs kvs (r ++ [.lst (ts.map .int)])] := by
            rw [tr]
            cases ts with
            | nil => exact absurd rfl ct
            | cons a ts => rfl
          obtain ⟨u, st2, e2, u0, u1⟩ := RG_dr hc st1 vs kvs (r ++ [.lst (ts.map .int)]) (m := (ts.length : Int)) (by omega) (by omega)
          obtain ⟨j, rfl⟩ := Int.eq_ofNat_of_zero_le u0
          obtain ⟨v, st3, e3, v0, v1⟩ := RG_dr hc st2 vs kvs (r ++ [.lst (ts.map .int)]) (m := 4) (by decide) (by decide)
          obtain ⟨y, hy, _⟩ := pick4 v0 v1 (-1) 1 1000 (-1000)
          have hj : j < ts.length := by omega
          have ln := len_own (ow st1) false
          rw [List.length_map] at ln
          have ix := own_ix (ow st2) (j : Int)
          rw [bv_at hj] at ix
          have st' := row_set (X := []) (L := 0) rfl (RG_at (st := st3) (vs := vs) (kvs := kvs) (rq ts)) (i := (j : Int)) (k := j) (v := .int (bv ts j + y)) (by unfold ixN; simp; omega) (by rw [← List.map_set]; exact oks_ints _ _)
          rw [← List.map_set, RG_set] at st'
          have er : (r ++ [Ob.lst (ts.map .int)]).set r.length (.lst ((ts.set j (bv ts j + y)).map .int)) = r ++ [.lst ((ts.set j (bv ts j + y)).map .int)] := by
            rw [List.set_append, if_neg (by omega), Nat.sub_self]; rfl
          rw [er] at st'
          have hl2 : (ts.set j (bv ts j + y)).length ≤ 1000 := by rw [List.length_set]; omega
          have := rest4 st3 (r ++ [.lst ((ts.set j (bv ts j + y)).map .int)]) r.length (ts.set j (bv ts j + y)) x14 (some (.int 1)) (some (.int (j : Int))) (rq _) hl2
          generalize ts.set j (bv ts j + y) = ts2 at st' this
          simp [S22] at this
          simp [h_law_b2, S22, e1, tr, cu, e2, ix, e3, hy, st']
          exact this
      · have := rest4 st1 (r ++ [.lst (ts.map .int)]) r.length ts x14 (some (.int kd)) x16 (rq ts) (by omega)
        simp [S22] at this
        simp [h_law_b2, S22, e1, c0, c1]
        exact this
  rw [blk_split 2]
  generalize (h_law_b2 (callN G 11)).drop 2 = rest at after ⊢
  generalize hb3 : h_law_b3 (callN G 11) = b3
  simp [h_law_b2, S22, s0, e0, l0, hb3, ew]
  refine w_seq enc3 (fun rr S H => ∃ (st : Int × Int) (ts : List Int) (x14 : Option D), S = S22 ns x3 x4 x5 x6 busy x8 x9 (some (.int code)) (some E) x12 (some (.loc 0 (3 + r.length))) x14 x15 x16 x17 x18 x19 x20 x21 ∧ H = [RG st vs kvs (r ++ [.lst (ts.map .int)])] ∧ ts.length + rr.length ≤ vs.length) rfl wm (fun r s H q i => by obtain ⟨_, _, _, _, rfl, _⟩ := q; exact wn i _ (RG_vis _ _ _ _)) ⟨st, [], _, rfl, rfl, by simp⟩ ?_ ?_
  · rintro v rr S H hv ⟨st, ts, x14, rfl, rfl, htl⟩ Q1 K1
    rw [List.length_cons] at htl
    rw [← hb3]
    have hvk := ok.2 v hv
    by_cases c : v.1 = code
    · obtain ⟨u, st2, e2, u0, u1⟩ := RG_dr hc st vs kvs (r ++ [.lst (ts.map .int)]) (m := v.2.2 - v.2.1 + 1) (by omega) (by omega)
      have ap := app_row (T := RG st2 vs kvs (r ++ [.lst (ts.map .int)])) (X := []) (L := 0) (k := 3 + r.length) (xs := ts.map .int) (y := .int (v.2.1 + u)) rfl (RG_at (by simp)) (by rw [List.length_map]; omega) (oks_ints _ _) rfl
      rw [RG_set] at ap
      have er : (r ++ [Ob.lst (ts.map .int)]).set r.length (.lst (ts.map .int ++ [.int (v.2.1 + u)])) = r ++ [.lst ((ts ++ [v.2.1 + u]).map .int)] := by
        rw [List.set_append, if_neg (by omega), Nat.sub_self]; simp
      rw [er] at ap
      have cu : cur [RG st vs kvs (r ++ [.lst (ts.map .int)])] 0 (3 + r.length) = some (ts.map .int) := row_own (X := []) (L := 0) rfl (RG_at (by simp))
      have fin2 := K1.n (s := S22 ns x3 x4 x5 x6 busy x8 x9 (some (.int code)) (some E) x12 (some (.loc 0 (3 + r.length))) (some (enc3 v)) x15 x16 x17 x18 x19 x20 x21) (h := [RG st2 vs kvs (r ++ [.lst ((ts ++ [v.2.1 + u]).map .int)])]) ⟨st2, ts ++ [v.2.1 + u], _, rfl, rfl, by simp; omega⟩
      generalize (ts ++ [v.2.1 + u]).map D.int = TN at ap fin2
      simp only [S22, enc3, c] at fin2
      simp [-append_ap, h_law_b3, S22, enc3, c, cu, e2, ap]
      exact fin2
    · simp [h_law_b3, S22, enc3, c]
      exact K1.n ⟨st, ts, _, rfl, rfl, by omega⟩
  · rintro S H ⟨st, ts, x14, rfl, rfl, htl⟩
    exact after st ts x14 (by simp at htl; omega)
end P_k74

namespace P_k74
open PySem PySem.Spec PyProof.Rows L2 Bk
def kv (vs : List I3) (busy : Int) (pre : List Int) : List (Key × D) := pre.map fun c => ((Sum.inl c : Key), encD vs busy c (dueB vs busy c))
theorem vAt_kv (vs : List I3) (busy : Int) : ∀ (pre : List Int) (c : Int), vAt (kv vs busy pre) (.inl c) = if c ∈ pre then some (encD vs busy c (dueB vs busy c)) else none
  | [], c => rfl
  | b :: pre, c => by
    have ih := vAt_kv vs busy pre c
    unfold vAt kv at ih ⊢
    rw [List.map_cons, List.find?_cons]
    by_cases e : b = c
    · subst e
      have : decide ((Sum.inl b : Key) = Sum.inl b) = true := decide_eq_true rfl
      simp only [this]
      simp
    · have e2 : decide ((Sum.inl b : Key) = Sum.inl c) = false := decide_eq_false (fun z => e (Sum.inl.inj z))
      simp only [e2]
      rw [ih]
      have : (c ∈ b :: pre) ↔ c ∈ pre := by
        rw [List.mem_cons]
        constructor
        · rintro (h | h)
          · exact absurd h.symm e
          · exact h
        · exact .inr
      simp only [this]
theorem encD_ok (vs : List I3) (busy code : Int) (b : Int × Int) (n : Nat) : (encD vs busy code b).ok n = true := by
  show (true && (true && (D.oks n ((times vs busy code b.2).map .int) && true))) = true
  rw [oks_ints]; rfl
theorem found_at (st : Int × Int) (vs : List I3) (kvs : List (Key × D)) (r : List Ob) : dcAt (.loc 0 2) [RG st vs kvs r] = some (0, 2, .dk kvs) := rfl
theorem found_ix {st : Int × Int} {vs : List I3} {busy : Int} {pre : List Int} {r : List Ob} {c : Int} (hc : c ∈ pre) : dixD (.loc 0 2) (.int c) [RG st vs (kv vs busy pre) r] = .ok (encD vs busy c (dueB vs busy c)) [RG st vs (kv vs busy pre) r] := by
  unfold dixD
  rw [found_at]
  have : dcLook (.dk (kv vs busy pre)) (.int c) = some (vAt (kv vs busy pre) (.inl c)) := rfl
  simp only [this, vAt_kv, if_pos hc]
theorem found_set {st : Int × Int} {vs : List I3} {busy : Int} {pre : List Int} {r : List Ob} {c : Int} (hc : c ∉ pre) (hl : pre.length ≤ 1000) : dsetD (.loc 0 2) (.int c) (encD vs busy c (dueB vs busy c)) [RG st vs (kv vs busy pre) r] = .ok .non [RG st vs (kv vs busy (pre ++ [c])) r] := by
  unfold dsetD
  rw [found_at]
  have hk : (kv vs busy pre).length < sizeLine := szlt (by unfold kv; rw [List.length_map]; omega)
  have hp : vPut (kv vs busy pre) (.inl c) (encD vs busy c (dueB vs busy c)) = kv vs busy (pre ++ [c]) := by
    unfold vPut
    rw [vAt_kv, if_neg hc]
    unfold kv
    rw [List.map_append]
    rfl
  have : dcPut (.dk (kv vs busy pre)) (.int c) (encD vs busy c (dueB vs busy c)) = some (.dk (kv vs busy (pre ++ [c]))) := by
    show (if (kv vs busy pre).length < sizeLine then (keyK (.int c)).map fun k => Ob.dk (vPut (kv vs busy pre) k (encD vs busy c (dueB vs busy c))) else none) = _
    rw [if_pos hk]
    show some (Ob.dk (vPut (kv vs busy pre) (.inl c) _)) = _
    rw [hp]
  simp only [this]
  have ok : (Ob.dk (kv vs busy (pre ++ [c]))).ok 1 = true := by
    show D.oks 1 ((kv vs busy (pre ++ [c])).map (·.2)) = true
    unfold kv
    rw [List.map_map]
    exact oks_map 1 (fun c => encD vs busy c (dueB vs busy c)) (fun c => encD_ok _ _ _ _ _) _
  rw [wr_ap, if_pos ok]
  rfl
theorem ph_b1 (ns : List Int) {Q : Po} {vs : List I3} (hl : vs.length ≤ 900) {busy code : Int} (ok : Vok vs busy) (st : Int × Int) {pre : List Int} (hn : code ∉ pre) (hp : pre.length ≤ 1000) (r : List Ob) {x3 x4 x5 x6 x11 x12 x13 x14 x15 x16 x17 x18 x19 x20 x21 : Option D}
    (K : ∀ st r x11 x12 x13 x14 x15 x16 x17 x18, Q.n (S22 ns x3 x4 x5 x6 busy (some (.lst (vs.map enc3))) (some (.loc 0 2)) (some (.int code)) x11 x12 x13 x14 x15 x16 x17 x18 x19 x20 x21) [RG st vs (kv vs busy (pre ++ [code])) r]) :
    (blk (h_law_b1 (callN G 11)) (S22 ns x3 x4 x5 x6 busy (some (.lst (vs.map enc3))) (some (.loc 0 2)) (some (.int code)) x11 x12 x13 x14 x15 x16 x17 x18 x19 x20 x21) [RG st vs (kv vs busy pre) r]).sat Q := by
  have hr4 : ∀ H, walkRng (.int 0) (.int 4) H = .ok (Wk.of ((List.range 4).map fun i : Nat => .int (i : Int))) H := fun H => wr1_nat (k := 4) (by decide) H
  have a1 := c_law_due 10 [RG st vs (kv vs busy pre) r] (RG_vis st vs (kv vs busy pre) r) (by omega) busy code
  have a2 := found_set (st := st) (vs := vs) (busy := busy) (r := r) hn hp
  have a3 := c_crowd 8 [RG st vs (kv vs busy (pre ++ [code])) r] (d := .lst (vs.map enc3)) rfl (by omega) busy code
  rw [crowd_due ok] at a3
  have a4 := ex_same (ex_due (vs := vs) (busy := busy) (code := code) (b := dueB vs busy code) (by omega)) [RG st vs (kv vs busy (pre ++ [code])) r]
  have a5 : cmpR .NotEq (.lst (vs.map enc3)) (.loc 0 1) [RG st vs (kv vs busy (pre ++ [code])) r] = .ok (.bl false) [RG st vs (kv vs busy (pre ++ [code])) r] := by
    have n1 : (D.lst (vs.map enc3)).now [RG st vs (kv vs busy (pre ++ [code])) r] = .lst (vs.map enc3) := rfl
    have n2 : (D.loc 0 1).now [RG st vs (kv vs busy (pre ++ [code])) r] = .lst (vs.map enc3) := rfl
    have pu : (D.lst (vs.map enc3)).pu 60 = true := by rw [pu_lst]; exact pus_map 59 _ (fun _ => rfl) vs
    have := cmp_ne_of (eqD_pu (x := .lst (vs.map enc3)) (y := .loc 0 1) (h := [RG st vs (kv vs busy (pre ++ [code])) r]) (by rw [n1]; exact pu) (by rw [n2]; exact pu))
    rw [this, n1, n2]
    simp
  have i0 : ∀ H, ixD (encD vs busy code (dueB vs busy code)) (.int 0) H = .ok (.int (dueB vs busy code).1) H := fun H => rfl
  have i1 : ∀ H, ixD (encD vs busy code (dueB vs busy code)) (.int 1) H = .ok (.int (dueB vs busy code).2) H := fun H => rfl
  have i2 : ∀ H, ixD (encD vs busy code (dueB vs busy code)) (.int 2) H = .ok (.lst ((times vs busy code (dueB vs busy code).2).map .int)) H := fun H => rfl
  have tl := times_len vs busy code (dueB vs busy code).2
  have a6 := c_shows_crowd 10 [RG st vs (kv vs busy (pre ++ [code])) r] (d' := .lst ((times vs busy code (dueB vs busy code).2).map .int)) (RG_vis st vs _ r) rfl (by omega) (by omega) busy code (dueB vs busy code).2
  rw [shows_due ok] at a6
  have a7 := ex_same (.int 2 (dueB vs busy code).1) [RG st vs (kv vs busy (pre ++ [code])) r]
  have sT : (times vs busy code (dueB vs busy code).2).length ≤ sizeLine := szle (by omega)
  have a8 : ∀ H, bltD false .list [.lst ((times vs busy code (dueB vs busy code).2).map .int)] H = .ok (.lst ((times vs busy code (dueB vs busy code).2).map .int)) H := fun H => by
    rw [list_own (xs := (times vs busy code (dueB vs busy code).2).map .int) rfl]
    show (if _ then Res.ok _ _ else _) = _
    rw [if_pos (by rw [List.length_map]; exact sT)]
  -- the four turns
  have turns : ∀ x12 x13 x14 x15 x16 x17 x18 st r, ((forL (Wk.of ((List.range 4).map fun i : Nat => .int (i : Int))) (fun d s h => blk (h_law_b2 (callN G 11)) (s.set 12 (some d)) h) [] (Wk.of ((List.range 4).map fun i : Nat => D.int (i : Int))).most 0 (S22 ns x3 x4 x5 x6 busy (some (.lst (vs.map enc3))) (some (.loc 0 2)) (some (.int code)) (some (encD vs busy code (dueB vs busy code))) x12 x13 x14 x15 x16 x17 x18 x19 x20 x21) [RG st vs (kv vs busy (pre ++ [code])) r]).seq (blk [])).sat Q := fun x12 x13 x14 x15 x16 x17 x18 st r => by
    refine rng_seq (fun i : Nat => D.int (i : Int)) 4 (fun i S H => ∃ (st : Int × Int) (r : List Ob) (x12 x13 x14 x15 x16 x17 x18 : Option D), S = S22 ns x3 x4 x5 x6 busy (some (.lst (vs.map enc3))) (some (.loc 0 2)) (some (.int code)) (some (encD vs busy code (dueB vs busy code))) x12 x13 x14 x15 x16 x17 x18 x19 x20 x21 ∧ H = [RG st vs (kv vs busy (pre ++ [code])) r]) ⟨_, _, _, _, _, _, _, _, _, rfl, rfl⟩ ?_ ?_
    · rintro i S H hi ⟨st, r, x12, x13, x14, x15, x16, x17, x18, rfl, rfl⟩ Q1 K1
      exact ph_b2 ns hl ok st _ r fun st r x13 x14 x15 x16 x17 x18 => K1.n ⟨st, r, _, _, _, _, _, _, _, rfl, rfl⟩
    · rintro S H ⟨st, r, x12, x13, x14, x15, x16, x17, x18, rfl, rfl⟩
      simp
      exact K _ _ _ _ _ _ _ _ _ _
  generalize encD vs busy code (dueB vs busy code) = E at a1 a2 a3 a4 i0 i1 i2 turns ⊢
  generalize hb2 : h_law_b2 (callN G 11) = b2 at turns
  generalize h4 : (List.range 4).map (fun i : Nat => D.int (i : Int)) = r4 at hr4 turns
  simp only [S22] at turns
  simp [h_law_b1, S22, hb2, hr4, a1, a2, a3, a4, a5, i0, i1, i2, a6, a7, a8]
  exact turns _ _ _ _ _ _ _ _ _
end P_k74

namespace P_k74
open PySem PySem.Spec PyProof.Rows L2 Bk
theorem prs_enc : ∀ us : List (Int × Int), D.prs (us.map encP) = some us
  | [] => rfl
  | u :: r => by
    show (D.prs (r.map encP)).map (fun ks => (u.1, u.2) :: ks) = _
    rw [prs_enc r]; rfl
theorem own_items {d : D} {h : Hs} {xs : List D} (ho : d.own h = some xs) : d.items h = some xs := by
  cases d with
  | lst ys => exact ho
  | loc l k => exact ho
  | _ => cases ho
theorem sort_rev {d : D} {h : Hs} {us : List (Int × Int)} (ho : d.own h = some (us.map encP)) (b : Bool) : sortRev b d h = mkL b ((srtP us).reverse.map encP) h := by
  unfold sortRev
  rw [own_items ho, Option.bind_some, prs_enc]
theorem suff_ok {vs : List I3} {busy : Int} {us : List (Int × Int)} (n : Nat) : (suffT vs busy us).ok n = true := by
  unfold suffT
  cases e : (srtP us).findSome? (shortF vs busy) with
  | none => rfl
  | some x =>
    obtain ⟨u, _, e2⟩ := List.exists_of_findSome?_eq_some e
    exact short_ok e2 n
theorem suff_ex {vs : List I3} {busy : Int} {us : List (Int × Int)} (hl : vs.length ≤ 1000) : Ex 2 (suffT vs busy us) := by
  have k1 : PyData.strOk "enough" = true := by decide +kernel
  have k2 : PyData.strOk "short" = true := by decide +kernel
  unfold suffT
  cases e : (srtP us).findSome? (shortF vs busy) with
  | none =>
    refine .tup _ _ (by decide) fun y hy => ?_
    simp at hy
    subst hy
    exact .str _ _ k1
  | some x =>
    obtain ⟨u, _, e2⟩ := List.exists_of_findSome?_eq_some e
    unfold shortF at e2
    split at e2
    · cases e2
      refine .tup _ _ (by show 4 ≤ _; decide) fun y hy => ?_
      simp at hy
      rcases hy with rfl | rfl | rfl | rfl
      · exact .str _ _ k2
      · exact .int _ _
      · exact .int _ _
      · exact ex_ints (Nat.le_trans (times_len ..) hl)
    · cases e2
def codes : List Int := [31, 77, 88, 999, 40]
/-- the units and the last word -/
theorem ph_units (ns : List Int) {Q : Po} {vs : List I3} (hl : vs.length ≤ 900) {busy : Int} (ok : Vok vs busy) (st : Int × Int) (r : List Ob) {x3 x4 x5 x6 x10 x11 x12 x13 x14 x15 x16 x17 x18 x19 x20 x21 : Option D} (K : ∀ T : List Ob, Q.r (.bl true) [T]) :
    (blk ((h_law (callN G 11)).drop 7) (S22 ns x3 x4 x5 x6 busy (some (.lst (vs.map enc3))) (some (.loc 0 2)) x10 x11 x12 x13 x14 x15 x16 x17 x18 x19 x20 x21) [RG st vs (kv vs busy codes) r]).sat Q := by
  have hc := c_draw ns 9
  have s0 : 0 ≤ sizeLine := Nat.zero_le _
  have e0 := RG_app st vs (kv vs busy codes) r (.lst [])
  have l0 := RG_len st vs (kv vs busy codes) r
  have g0 : GoodS [RG st vs (kv vs busy codes) (r ++ [.lst []])] := goodS_LH st _
  obtain ⟨ys, Y, es, hperm, g1, l1, d1⟩ := c_shuffled ns 8 D.int (fun _ _ => rfl) g0 (xs := [31, 77, 88, 999]) (by decide)
  obtain ⟨st1, eY⟩ := dnS_LH d1
  subst eY
  have es : callN G 11 "_law_shuffled" [.loc 0 0, .scr ns, .lst [.int 31, .int 77, .int 88, .int 999]] [RG st vs (kv vs busy codes) (r ++ [.lst []])] = .ok (.lst (ys.map .int)) [RG st1 vs (kv vs busy codes) (r ++ [.lst []])] := es
  have yl : ys.length = 4 := hperm.length_eq
  have ym : ∀ c ∈ ys, c ∈ codes := fun c hc => by
    have := hperm.mem_iff.mp hc
    simp at this
    unfold codes
    rcases this with rfl | rfl | rfl | rfl <;> simp
  have s4 : 4 ≤ sizeLine := szle (by decide)
  have ws : ∀ H, walkSeq (.lst (ys.map .int)) H = .ok (Wk.of (ys.map .int)) H := fun H => rfl
  generalize hb4 : h_law_b4 (callN G 11) = b4
  generalize hb5 : h_law_b5 (callN G 11) = b5
  simp [h_law, S22, s0, e0, l0, hb4, hb5, s4, es, ws]
  refine for_seq D.int (fun rr S H => ∃ (st : Int × Int) (us : List (Int × Int)) (x10 : Option D), S = S22 ns x3 x4 x5 x6 busy (some (.lst (vs.map enc3))) (some (.loc 0 2)) x10 x11 x12 x13 x14 x15 x16 x17 x18 (some (.loc 0 (3 + r.length))) x20 x21 ∧ H = [RG st vs (kv vs busy codes) (r ++ [.lst (us.map encP)])] ∧ us.length + rr.length = 4 ∧ (∀ u ∈ us, u.1 ∈ codes) ∧ ∀ c ∈ rr, c ∈ codes) rfl ⟨st1, [], _, rfl, rfl, by simpa using yl, by simp, ym⟩ ?_ ?_
  · rintro c rr S H hmem ⟨st, us, x10, rfl, rfl, hlen, huc, hrc⟩ Q1 K1
    rw [List.length_cons] at hlen
    rw [← hb4]
    have hcc := hrc c List.mem_cons_self
    have fx := found_ix (st := st) (vs := vs) (busy := busy) (r := r ++ [.lst (us.map encP)]) hcc
    obtain ⟨v, st2, e2, _, _⟩ := RG_dr hc st vs (kv vs busy codes) (r ++ [.lst (us.map encP)]) (m := 4) (by decide) (by decide)
    have i0 : ∀ H, ixD (encD vs busy c (dueB vs busy c)) (.int 0) H = .ok (.int (dueB vs busy c).1) H := fun H => rfl
    generalize encD vs busy c (dueB vs busy c) = E at fx i0
    have cu : cur [RG st vs (kv vs busy codes) (r ++ [.lst (us.map encP)])] 0 (3 + r.length) = some (us.map encP) := row_own (X := []) (L := 0) rfl (RG_at (by simp))
    have app : ∀ m : Int, mthD .append (.loc 0 (3 + r.length)) [.tup [.int c, .int m]] [RG st2 vs (kv vs busy codes) (r ++ [.lst (us.map encP)])] = .ok .non [RG st2 vs (kv vs busy codes) (r ++ [.lst ((us ++ [(c, m)]).map encP)])] := fun m => by
      have ap := app_row (T := RG st2 vs (kv vs busy codes) (r ++ [.lst (us.map encP)])) (X := []) (L := 0) (k := 3 + r.length) (xs := us.map encP) (y := .tup [.int c, .int m]) rfl (RG_at (by simp)) (by rw [List.length_map]; omega) (oks_map 1 encP (fun _ => rfl) us) rfl
      rw [ap, RG_set, List.set_append, if_neg (by omega), Nat.sub_self]
      simp [encP]
    have fin : ∀ m : Int, Q1.n (S22 ns x3 x4 x5 x6 busy (some (.lst (vs.map enc3))) (some (.loc 0 2)) (some (.int c)) x11 x12 x13 x14 x15 x16 x17 x18 (some (.loc 0 (3 + r.length))) x20 x21) [RG st2 vs (kv vs busy codes) (r ++ [.lst ((us ++ [(c, m)]).map encP)])] := fun m => K1.n ⟨st2, us ++ [(c, m)], _, rfl, rfl, by simp; omega, fun u hu => by
      rcases List.mem_append.mp hu with hu | hu
      · exact huc u hu
      · rw [List.mem_singleton.mp hu]; exact hcc, fun x hx => hrc x (List.mem_cons_of_mem _ hx)⟩
    simp only [S22, List.map_append, List.map_cons, List.map_nil] at fin
    simp [-append_ap, h_law_b4, S22, cu, fx, i0, e2, app]
    exact fin _
  · rintro S H ⟨st, us, x10, rfl, rfl, hlen, huc, _⟩
    have ul : us.length = 4 := by simpa using hlen
    have ow : (D.loc 0 (3 + r.length)).own [RG st vs (kv vs busy codes) (r ++ [.lst (us.map encP)])] = some (us.map encP) := row_own (X := []) (L := 0) rfl (RG_at (by simp))
    have sr := sort_rev ow false
    have sl : ((srtP us).reverse.map encP).length ≤ sizeLine := szle (by rw [List.length_map, List.length_reverse, (srtP_perm us).length_eq]; omega)
    have mk : ∀ (xs : List D) H, xs.length ≤ sizeLine → mkL false xs H = .ok (.lst xs) H := fun xs H h => by
      show (if xs.length ≤ sizeLine then Res.ok (D.lst xs) H else .bad) = _
      rw [if_pos h]
    rw [mk _ _ sl] at sr
    have lw := list_own ow false
    rw [mk _ _ (szle (by rw [List.length_map]; omega))] at lw
    have a1 := c_units 7 [RG st vs (kv vs busy codes) (r ++ [.lst (us.map encP)])] (RG_vis st vs _ _) (by omega) ok us (by omega)
    have a2 := ex_same (suff_ex (vs := vs) (busy := busy) (us := us) (by omega)) [RG st vs (kv vs busy codes) (r ++ [.lst (us.map encP)])]
    have we := want_eq (shortF vs busy) (.tup [.str "enough"]) (srtP us)
    have eS : suffT vs busy us = ((srtP us).findSome? (shortF vs busy)).getD (.tup [.str "enough"]) := rfl
    rw [← eS] at we
    have hm : ∀ u ∈ (srtP us).reverse, u.1 ∈ codes := fun u hu => huc u ((srtP_perm us).mem_iff.mp (List.mem_reverse.mp hu))
    generalize (srtP us).reverse = U at sr we hm
    generalize suffT vs busy us = SU at a1 a2 we
    have rga : (RG st vs (kv vs busy codes) (r ++ [.lst (us.map encP)]))[3 + r.length]? = some (.lst (us.map encP)) := RG_at (by simp)
    have sus : us.length ≤ sizeLine := szle (by omega)
    generalize hR : r ++ [Ob.lst (us.map encP)] = R at ow sr lw a1 a2 rga ⊢
    have ws2 : ∀ H, walkSeq (.lst (U.map encP)) H = .ok (Wk.of (U.map encP)) H := fun H => rfl
    simp [S22, sr, ws2]
    refine for_seq encP (fun rr S H => ∃ (x10 x21 : Option D) (w : D), S = S22 ns x3 x4 x5 x6 busy (some (.lst (vs.map enc3))) (some (.loc 0 2)) x10 x11 x12 x13 x14 x15 x16 x17 x18 (some (.loc 0 (3 + r.length))) (some w) x21 ∧ H = [RG st vs (kv vs busy codes) R] ∧ rr.foldl (fun w u => (shortF vs busy u).getD w) w = SU ∧ ∀ u ∈ rr, u.1 ∈ codes) rfl ⟨_, _, _, rfl, rfl, we, hm⟩ ?_ ?_
    · rintro u rr S H hmem ⟨x10, x21, w, rfl, rfl, hf, hcs⟩ Q1 K1
      rw [← hb5]
      have fx := found_ix (st := st) (vs := vs) (busy := busy) (r := R) (hcs u List.mem_cons_self)
      have eE : encD vs busy u.1 (dueB vs busy u.1) = .tup [.int (dueB vs busy u.1).1, .int (dueB vs busy u.1).2, .lst ((times vs busy u.1 (dueB vs busy u.1).2).map .int)] := rfl
      rw [eE] at fx
      have sf : shortF vs busy u = if u.2 < (dueB vs busy u.1).1 then some (.tup [.str "short", .int u.1, .int (dueB vs busy u.1).2, .lst ((times vs busy u.1 (dueB vs busy u.1).2).map .int)]) else none := rfl
      rw [List.foldl_cons, sf] at hf
      have eu : encP u = .tup [.int u.1, .int u.2] := rfl
      have s4 : 4 ≤ sizeLine := szle (by decide)
      generalize (times vs busy u.1 (dueB vs busy u.1).2).map D.int = TL at fx hf
      by_cases c : u.2 < (dueB vs busy u.1).1
      · rw [if_pos c] at hf
        have := K1.n (s := S22 ns x3 x4 x5 x6 busy (some (.lst (vs.map enc3))) (some (.loc 0 2)) (some (.int u.1)) x11 x12 x13 x14 x15 x16 x17 x18 (some (.loc 0 (3 + r.length))) (some (.tup [.str "short", .int u.1, .int (dueB vs busy u.1).2, .lst TL])) (some (.int u.2))) (h := [RG st vs (kv vs busy codes) R]) ⟨_, _, _, rfl, rfl, hf, fun x hx => hcs x (List.mem_cons_of_mem _ hx)⟩
        simp only [S22] at this
        simp [eu, h_law_b5, S22, fx, c, s4]
        exact this
      · rw [if_neg c] at hf
        have := K1.n (s := S22 ns x3 x4 x5 x6 busy (some (.lst (vs.map enc3))) (some (.loc 0 2)) (some (.int u.1)) x11 x12 x13 x14 x15 x16 x17 x18 (some (.loc 0 (3 + r.length))) (some w) (some (.int u.2))) (h := [RG st vs (kv vs busy codes) R]) ⟨_, _, _, rfl, rfl, hf, fun x hx => hcs x (List.mem_cons_of_mem _ hx)⟩
        simp only [S22] at this
        simp [eu, h_law_b5, S22, fx, c]
        exact this
    · rintro S H ⟨x10, x21, w, rfl, rfl, hf, _⟩
      have hf : w = SU := hf
      subst hf
      simp [S22, rga, sus, a1, a2]
      exact K _
end P_k74

namespace P_k74
open PySem PySem.Spec PyProof.Rows L2 Bk
def V0 (st : Int × Int) (vs : List I3) : List Ob := [stS st, .lst (vs.map enc3)]
theorem V0_dr {ns : List Int} {call : Str → List D → Hs → Res D} (hc : DrawS ns call) (st : Int × Int) (vs : List I3) {m : Int} (hm : 0 < m) (hm2 : m < 1073741824) : ∃ (v : Int) (st' : Int × Int), call "_law_draw" [.loc 0 0, .scr ns, .int m] [V0 st vs] = .ok (.int v) [V0 st' vs] ∧ 0 ≤ v ∧ v < m := by
  have := drawS_L hc st [Ob.lst (vs.map enc3)] hm hm2
  exact this
theorem law_true (ns : List Int) (hl : ns.length ≤ 63) : ∃ h, callN G 12 "law" [.scr ns] [] = .ok (.bl true) h := by
  rw [h_law_eq]
  obtain ⟨d, h, e, rfl⟩ := fin_o (n := 0) (o := blk (h_law (callN G 11)) [some (.scr ns), none, none, none, none, none, none, none, none, none, none, none, none, none, none, none, none, none, none, none, none, none] [[]]) (fun d _ => d = .bl true) fun Q K => by
    have hc := c_draw ns 9
    have s0 : 0 ≤ sizeLine := Nat.zero_le _
    have s2 : 2 ≤ sizeLine := szle (by decide)
    -- the codes
    have ends : ∀ (vs : List I3) (busy : Int), vs.length ≤ 900 → Vok vs busy → ∀ st x3 x4 x5 x6, (blk ((h_law (callN G 11)).drop 6) (S22 ns x3 x4 x5 x6 busy (some (.lst (vs.map enc3))) (some (.loc 0 2)) none none none none none none none none none none none none) [RG st vs (kv vs busy []) []]).sat Q := fun vs busy hl ok st x3 x4 x5 x6 => by
      have tail : ∀ st r x10 x11 x12 x13 x14 x15 x16 x17 x18, (blk ((h_law (callN G 11)).drop 7) (S22 ns x3 x4 x5 x6 busy (some (.lst (vs.map enc3))) (some (.loc 0 2)) x10 x11 x12 x13 x14 x15 x16 x17 x18 none none none) [RG st vs (kv vs busy codes) r]).sat Q := fun st r x10 x11 x12 x13 x14 x15 x16 x17 x18 => ph_units ns hl ok st r fun T => K.r rfl rfl
      rw [show (h_law (callN G 11)).drop 6 = (sFor [] (wSeq (eTup [(eC (.int 31)), (eC (.int 77)), (eC (.int 88)), (eC (.int 999)), (eC (.int 40))])) (gN (pV 10)) (h_law_b1 (callN G 11))) :: (h_law (callN G 11)).drop 7 from rfl]
      generalize (h_law (callN G 11)).drop 7 = rest at tail ⊢
      have ph := fun (code : Int) (Q1 : Po) st pre hn hp r x11 x12 x13 x14 x15 x16 x17 x18 K1 => ph_b1 ns (Q := Q1) hl (code := code) ok st (pre := pre) hn hp r (x3 := x3) (x4 := x4) (x5 := x5) (x6 := x6) (x11 := x11) (x12 := x12) (x13 := x13) (x14 := x14) (x15 := x15) (x16 := x16) (x17 := x17) (x18 := x18) (x19 := none) (x20 := none) (x21 := none) K1
      generalize h_law_b1 (callN G 11) = b1 at ph ⊢
      have wt : ∀ H, walkSeq (.tup [.int 31, .int 77, .int 88, .int 999, .int 40]) H = .ok (Wk.of (codes.map .int)) H := fun H => rfl
      simp [S22, wt]
      refine for_seq D.int (fun rr S H => ∃ (st : Int × Int) (r : List Ob) (pre : List Int) (x10 x11 x12 x13 x14 x15 x16 x17 x18 : Option D), S = S22 ns x3 x4 x5 x6 busy (some (.lst (vs.map enc3))) (some (.loc 0 2)) x10 x11 x12 x13 x14 x15 x16 x17 x18 none none none ∧ H = [RG st vs (kv vs busy pre) r] ∧ pre ++ rr = codes) rfl ⟨st, [], [], _, _, _, _, _, _, _, _, _, rfl, rfl, rfl⟩ ?_ ?_
      · rintro c rr S H hmem ⟨st, r, pre, x10, x11, x12, x13, x14, x15, x16, x17, x18, rfl, rfl, hp⟩ Q1 K1
        have nd : codes.Nodup := by unfold codes; decide
        rw [← hp] at nd
        have hn : c ∉ pre := fun hm => (List.nodup_append.mp nd).2.2 c hm c List.mem_cons_self rfl
        have hpl : pre.length ≤ 1000 := by
          have := congrArg List.length hp
          simp [codes] at this
          omega
        exact ph c Q1 st pre hn hpl r _ _ _ _ _ _ _ _ fun st r x11 x12 x13 x14 x15 x16 x17 x18 => K1.n ⟨st, r, pre ++ [c], _, _, _, _, _, _, _, _, _, rfl, rfl, by simp [hp]⟩
      · rintro S H ⟨st, r, pre, x10, x11, x12, x13, x14, x15, x16, x17, x18, rfl, rfl, hp⟩
        rw [List.append_nil] at hp
        subst hp
        exact tail st r _ _ _ _ _ _ _ _ _
    -- busy, what is given, what is found
    have mid : ∀ (vs : List I3), vs.length ≤ 900 → (∀ v ∈ vs, 0 ≤ v.2.1 ∧ v.2.1 ≤ v.2.2 ∧ v.2.2 ≤ 999) → ∀ st x3 x4 x5 x6, (blk ((h_law (callN G 11)).drop 3) [some (.scr ns), some (.loc 0 0), some (.loc 0 1), x3, x4, x5, x6, none, none, none, none, none, none, none, none, none, none, none, none, none, none, none] [V0 st vs]).sat Q := fun vs hl hv st x3 x4 x5 x6 => by
      obtain ⟨v1, st1, e1, v10, v11⟩ := V0_dr hc st vs (m := 20) (by decide) (by decide)
      obtain ⟨v2, st2, e2, v20, v21⟩ := V0_dr hc st1 vs (m := 4) (by decide) (by decide)
      obtain ⟨busy, hb, hbc⟩ := pick4 v20 v21 1 2 20 (1 + v1)
      have ok : Vok vs busy := ⟨by omega, hv⟩
      have sv : vs.length ≤ sizeLine := szle (by omega)
      have g1 : (V0 st2 vs)[1]? = some (.lst (vs.map enc3)) := rfl
      have lv : (V0 st2 vs).length = 2 := rfl
      have g2 : (V0 st2 vs)[1]'(by rw [lv]; decide) = .lst (vs.map enc3) := rfl
      have := ends vs busy hl ok st2 x3 x4 x5 x6
      rw [show (h_law (callN G 11)).drop 3 = ((h_law (callN G 11)).drop 3).take 3 ++ (h_law (callN G 11)).drop 6 from rfl, blk_app]
      generalize (h_law (callN G 11)).drop 6 = rest at this ⊢
      have eR : V0 st2 vs ++ [.dk []] = RG st2 vs (kv vs busy []) [] := rfl
      simp only [S22] at this
      simp [h_law, e1, e2, hb, g1, g2, sv, lv, eR]
      exact this
    rw [show h_law (callN G 11) = (h_law (callN G 11)).take 3 ++ (h_law (callN G 11)).drop 3 from rfl, blk_app]
    generalize (h_law (callN G 11)).drop 3 = rest at mid ⊢
    obtain ⟨v0, st0, e0, v00, v01⟩ := V0_dr hc (0, 0) [] (m := 5) (by decide) (by decide)
    have e0 : callN G 11 "_law_draw" [.loc 0 0, .scr ns, .int 5] [[.lst [.int 0, .int 0], .lst []]] = .ok (.int v0) [V0 st0 []] := e0
    obtain ⟨m, hm, hm40⟩ : ∃ m : Nat, atI [D.int 0, .int 1, .int 4, .int 12, .int 40] v0 = some (.int (m : Int)) ∧ m ≤ 40 := by
      obtain ⟨x, hx, ha⟩ := pickD [D.int 0, .int 1, .int 4, .int 12, .int 40] v00 (by simpa using v01)
      simp at hx
      rcases hx with rfl | rfl | rfl | rfl | rfl
      · exact ⟨0, ha, by omega⟩
      · exact ⟨1, ha, by omega⟩
      · exact ⟨4, ha, by omega⟩
      · exact ⟨12, ha, by omega⟩
      · exact ⟨40, ha, by omega⟩
    have w1 := fun H => wr1_nat (k := m) (by omega) H
    generalize hb0 : h_law_b0 (callN G 11) = b0
    simp [h_law, s0, s2, e0, hm, w1, hb0]
    refine rng_seq (fun i : Nat => D.int (i : Int)) m (fun i S H => ∃ (st : Int × Int) (vs : List I3) (x3 x4 x5 x6 : Option D), S = [some (.scr ns), some (.loc 0 0), some (.loc 0 1), x3, x4, x5, x6, none, none, none, none, none, none, none, none, none, none, none, none, none, none, none] ∧ H = [V0 st vs] ∧ vs.length = i ∧ ∀ v ∈ vs, 0 ≤ v.2.1 ∧ v.2.1 ≤ v.2.2 ∧ v.2.2 ≤ 999) ⟨st0, [], _, _, _, _, rfl, rfl, rfl, by simp⟩ ?_ ?_
    · rintro i S H hi ⟨st, vs, x3, x4, x5, x6, rfl, rfl, hvl, hv⟩ Q1 K1
      rw [← hb0]
      obtain ⟨u1, st1, e1, u10, u11⟩ := V0_dr hc st vs (m := 3) (by decide) (by decide)
      obtain ⟨wide, hw, hwc⟩ := pick3 u10 u11 1000 60 12
      obtain ⟨first, st2, e2, f0, f1⟩ := V0_dr hc st1 vs (m := wide) (by omega) (by omega)
      obtain ⟨u3, st3, e3, u30, u31⟩ := V0_dr hc st2 vs (m := 4) (by decide) (by decide)
      obtain ⟨u4, st4, e4, u40, u41⟩ := V0_dr hc st3 vs (m := wide) (by omega) (by omega)
      obtain ⟨u5, st5, e5, u50, u51⟩ := V0_dr hc st4 vs (m := 3) (by decide) (by decide)
      obtain ⟨z, hz, hzc⟩ := pick3 u50 u51 0 u3 u4
      obtain ⟨u6, st6, e6, u60, u61⟩ := V0_dr hc st5 vs (m := 4) (by decide) (by decide)
      obtain ⟨cd, hcd, _⟩ := pick4 u60 u61 31 77 88 999
      have g1 : (V0 st5 vs)[1]? = some (.lst (vs.map enc3)) := rfl
      have fin : ∀ last : Int, first ≤ last → last ≤ 999 → mthD .append (.loc 0 1) [.tup [.int cd, .int first, .int last]] [V0 st6 vs] = .ok .non [V0 st6 (vs ++ [(cd, first, last)])] ∧ Q1.n [some (.scr ns), some (.loc 0 0), some (.loc 0 1), some (.int (i : Int)), some (.int wide), some (.int first), some (.int last), none, none, none, none, none, none, none, none, none, none, none, none, none, none, none] [V0 st6 (vs ++ [(cd, first, last)])] := fun last h1 h2 => by
        refine ⟨?_, K1.n ⟨st6, vs ++ [(cd, first, last)], _, _, _, _, rfl, rfl, by simp; omega, fun v hvv => ?_⟩⟩
        · have ap := app_row (T := V0 st6 vs) (X := []) (L := 0) (k := 1) (xs := vs.map enc3) (y := .tup [.int cd, .int first, .int last]) rfl rfl (by rw [List.length_map]; omega) (oks_map 1 enc3 (fun _ => rfl) vs) rfl
          rw [ap]
          unfold V0
          simp [enc3]
        · rcases List.mem_append.mp hvv with hvv | hvv
          · exact hv v hvv
          · rw [List.mem_singleton.mp hvv]
            simp only
            omega
      by_cases c : first + z < 999
      · obtain ⟨ap, kk⟩ := fin (first + z) (by omega) (by omega)
        simp [-append_ap, h_law_b0, e1, hw, e2, e3, e4, e5, hz, c, g1, e6, hcd, ap]
        exact kk
      · obtain ⟨ap, kk⟩ := fin 999 (by omega) (by omega)
        simp [-append_ap, h_law_b0, e1, hw, e2, e3, e4, e5, hz, c, g1, e6, hcd, ap]
        exact kk
    · rintro S H ⟨st, vs, x3, x4, x5, x6, rfl, rfl, hvl, hv⟩
      exact mid vs (by omega) hv st x3 x4 x5 x6
  exact ⟨h, e⟩
end P_k74

namespace P_k74
open PySem PySem.Spec PyProof.Rows L2 Bk
theorem okG : Ok G := ok_mk ⟨⟨⟨rfl, rfl, rfl, by decide +kernel, rfl, by decide +kernel, by decide +kernel⟩, by decide +kernel, by decide +kernel, by decide +kernel⟩, ⟨⟨rfl, rfl, rfl, by decide +kernel, rfl, by decide +kernel, by decide +kernel⟩, by decide +kernel, by decide +kernel, by decide +kernel⟩, ⟨⟨rfl, rfl, rfl, by decide +kernel, rfl, by decide +kernel, by decide +kernel⟩, by decide +kernel, by decide +kernel, by decide +kernel⟩, ⟨⟨rfl, rfl, rfl, by decide +kernel, rfl, by decide +kernel, by decide +kernel⟩, by decide +kernel, by decide +kernel, by decide +kernel⟩, ⟨⟨rfl, rfl, rfl, by decide +kernel, rfl, by decide +kernel, by decide +kernel⟩, by decide +kernel, by decide +kernel, by decide +kernel⟩, ⟨⟨rfl, rfl, rfl, by decide +kernel, rfl, by decide +kernel, by decide +kernel⟩, by decide +kernel, by decide +kernel, by decide +kernel⟩, ⟨⟨rfl, rfl, rfl, by decide +kernel, rfl, by decide +kernel, by decide +kernel⟩, by decide +kernel, by decide +kernel, by decide +kernel⟩, ⟨⟨rfl, rfl, rfl, by decide +kernel, rfl, by decide +kernel, by decide +kernel⟩, by decide +kernel, by decide +kernel, by decide +kernel⟩, ⟨⟨rfl, rfl, rfl, by decide +kernel, rfl, by decide +kernel, by decide +kernel⟩, by decide +kernel, by decide +kernel, by decide +kernel⟩, ⟨⟨rfl, rfl, rfl, by decide +kernel, rfl, by decide +kernel, by decide +kernel⟩, by decide +kernel, by decide +kernel, by decide +kernel⟩, ⟨⟨rfl, rfl, rfl, by decide +kernel, rfl, by decide +kernel, by decide +kernel⟩, by decide +kernel, by decide +kernel, by decide +kernel⟩, ⟨⟨rfl, rfl, rfl, by decide +kernel, rfl, by decide +kernel, by decide +kernel⟩, by decide +kernel, by decide +kernel, by decide +kernel⟩, trivial⟩ trivial ⟨by decide +kernel, by decide +kernel, by decide +kernel, by decide +kernel, by decide +kernel, by decide +kernel, by decide +kernel, by decide +kernel, by decide +kernel, by decide +kernel, by decide +kernel, by decide +kernel, by decide +kernel, by decide +kernel, trivial⟩
theorem bd_at_tick : ∀ (kV dc pm : Value) (an : Option Addr) (cd ct : Value) (us : List Value), us.length = r_at_tick.ps.length → bindArgs (PySem.W.fnOf "at_tick" "at_tick" (defArgs r_at_tick.st) (defBody r_at_tick.st) (defScope r_at_tick.st) .none kV dc pm an cd ct) ⟨us, []⟩ = pure (r_at_tick.ps.zip us) := fun _ _ _ _ _ _ us hl => match us, hl with | [_, _, _], _ => rfl
theorem bd_times_for : ∀ (kV dc pm : Value) (an : Option Addr) (cd ct : Value) (us : List Value), us.length = r_times_for.ps.length → bindArgs (PySem.W.fnOf "times_for" "times_for" (defArgs r_times_for.st) (defBody r_times_for.st) (defScope r_times_for.st) .none kV dc pm an cd ct) ⟨us, []⟩ = pure (r_times_for.ps.zip us) := fun _ _ _ _ _ _ us hl => match us, hl with | [_, _, _, _], _ => rfl
theorem bd_crowd : ∀ (kV dc pm : Value) (an : Option Addr) (cd ct : Value) (us : List Value), us.length = r_crowd.ps.length → bindArgs (PySem.W.fnOf "crowd" "crowd" (defArgs r_crowd.st) (defBody r_crowd.st) (defScope r_crowd.st) .none kV dc pm an cd ct) ⟨us, []⟩ = pure (r_crowd.ps.zip us) := fun _ _ _ _ _ _ us hl => match us, hl with | [_, _, _], _ => rfl
theorem bd_shows_crowd : ∀ (kV dc pm : Value) (an : Option Addr) (cd ct : Value) (us : List Value), us.length = r_shows_crowd.ps.length → bindArgs (PySem.W.fnOf "shows_crowd" "shows_crowd" (defArgs r_shows_crowd.st) (defBody r_shows_crowd.st) (defScope r_shows_crowd.st) .none kV dc pm an cd ct) ⟨us, []⟩ = pure (r_shows_crowd.ps.zip us) := fun _ _ _ _ _ _ us hl => match us, hl with | [_, _, _, _, _], _ => rfl
theorem bd_units_suffice : ∀ (kV dc pm : Value) (an : Option Addr) (cd ct : Value) (us : List Value), us.length = r_units_suffice.ps.length → bindArgs (PySem.W.fnOf "units_suffice" "units_suffice" (defArgs r_units_suffice.st) (defBody r_units_suffice.st) (defScope r_units_suffice.st) .none kV dc pm an cd ct) ⟨us, []⟩ = pure (r_units_suffice.ps.zip us) := fun _ _ _ _ _ _ us hl => match us, hl with | [_, _, _], _ => rfl
theorem bd__law_refill : ∀ (kV dc pm : Value) (an : Option Addr) (cd ct : Value) (us : List Value), us.length = r__law_refill.ps.length → bindArgs (PySem.W.fnOf "_law_refill" "_law_refill" (defArgs r__law_refill.st) (defBody r__law_refill.st) (defScope r__law_refill.st) .none kV dc pm an cd ct) ⟨us, []⟩ = pure (r__law_refill.ps.zip us) := fun _ _ _ _ _ _ us hl => match us, hl with | [_, _], _ => rfl
theorem bd__law_draw : ∀ (kV dc pm : Value) (an : Option Addr) (cd ct : Value) (us : List Value), us.length = r__law_draw.ps.length → bindArgs (PySem.W.fnOf "_law_draw" "_law_draw" (defArgs r__law_draw.st) (defBody r__law_draw.st) (defScope r__law_draw.st) .none kV dc pm an cd ct) ⟨us, []⟩ = pure (r__law_draw.ps.zip us) := fun _ _ _ _ _ _ us hl => match us, hl with | [_, _, _], _ => rfl
theorem bd__law_exact : ∀ (kV dc pm : Value) (an : Option Addr) (cd ct : Value) (us : List Value), us.length = r__law_exact.ps.length → bindArgs (PySem.W.fnOf "_law_exact" "_law_exact" (defArgs r__law_exact.st) (defBody r__law_exact.st) (defScope r__law_exact.st) .none kV dc pm an cd ct) ⟨us, []⟩ = pure (r__law_exact.ps.zip us) := fun _ _ _ _ _ _ us hl => match us, hl with | [_, _], _ => rfl
theorem bd__law_shuffled : ∀ (kV dc pm : Value) (an : Option Addr) (cd ct : Value) (us : List Value), us.length = r__law_shuffled.ps.length → bindArgs (PySem.W.fnOf "_law_shuffled" "_law_shuffled" (defArgs r__law_shuffled.st) (defBody r__law_shuffled.st) (defScope r__law_shuffled.st) .none kV dc pm an cd ct) ⟨us, []⟩ = pure (r__law_shuffled.ps.zip us) := fun _ _ _ _ _ _ us hl => match us, hl with | [_, _, _], _ => rfl
theorem bd__law_due : ∀ (kV dc pm : Value) (an : Option Addr) (cd ct : Value) (us : List Value), us.length = r__law_due.ps.length → bindArgs (PySem.W.fnOf "_law_due" "_law_due" (defArgs r__law_due.st) (defBody r__law_due.st) (defScope r__law_due.st) .none kV dc pm an cd ct) ⟨us, []⟩ = pure (r__law_due.ps.zip us) := fun _ _ _ _ _ _ us hl => match us, hl with | [_, _, _], _ => rfl
theorem bd__law_counted : ∀ (kV dc pm : Value) (an : Option Addr) (cd ct : Value) (us : List Value), us.length = r__law_counted.ps.length → bindArgs (PySem.W.fnOf "_law_counted" "_law_counted" (defArgs r__law_counted.st) (defBody r__law_counted.st) (defScope r__law_counted.st) .none kV dc pm an cd ct) ⟨us, []⟩ = pure (r__law_counted.ps.zip us) := fun _ _ _ _ _ _ us hl => match us, hl with | [_, _, _, _, _], _ => rfl
theorem bd_law : ∀ (kV dc pm : Value) (an : Option Addr) (cd ct : Value) (us : List Value), us.length = r_law.ps.length → bindArgs (PySem.W.fnOf "law" "law" (defArgs r_law.st) (defBody r_law.st) (defScope r_law.st) .none kV dc pm an cd ct) ⟨us, []⟩ = pure (r_law.ps.zip us) := fun _ _ _ _ _ _ us hl => match us, hl with | [_], _ => rfl
end P_k74
open PySem PySem.W PyProof.Rows
local macro_rules | `(tactic| o_head ($_:ident $k:term $a:term $e:term)) => `(tactic| o_head (PySem.W.kmHook $k $a $e [35]))
set_option maxHeartbeats 0 in
theorem PySem.Challenge.cw_brackenfell_k74_crowds_and_units_holds : PySem.Challenge.rw_brackenfell_k74_crowds_and_units.Holds := by
  w_on; o_law; k_head; (case hw => w_witness2)
  k_fill
  refine LamX.walk_ofTs (l := PySem.Challenge.rw_brackenfell_k74_crowds_and_units) (n := 63) (k := 12) (x := "script") (CX := fun w => L2.CX (PySem.Challenge.rw_brackenfell_k74_crowds_and_units).prog w) rfl (by decide) rfl ⟨rfl, by decide, by decide⟩ (fun w h Y => PySem.W.km_in_of Y) ?F (fun _ _ _ _ _ h => Bk.noCX h)
  case F =>
    intro w mg fa h Y KX Gm hmg
    have d_at_tick : Bk.DefAtX KX mg "at_tick" P_k74.r_at_tick.st P_k74.r_at_tick.ps := by
      refine' Bk.defAt_mk KX Gm P_k74.bd_at_tick ?a ?l ?c ?k; (case a => k_is); (case l => k_is); (case c => k_is); (case k => k_is)
    have d_times_for : Bk.DefAtX KX mg "times_for" P_k74.r_times_for.st P_k74.r_times_for.ps := by
      refine' Bk.defAt_mk KX Gm P_k74.bd_times_for ?a ?l ?c ?k; (case a => k_is); (case l => k_is); (case c => k_is); (case k => k_is)
    have d_crowd : Bk.DefAtX KX mg "crowd" P_k74.r_crowd.st P_k74.r_crowd.ps := by
      refine' Bk.defAt_mk KX Gm P_k74.bd_crowd ?a ?l ?c ?k; (case a => k_is); (case l => k_is); (case c => k_is); (case k => k_is)
    have d_shows_crowd : Bk.DefAtX KX mg "shows_crowd" P_k74.r_shows_crowd.st P_k74.r_shows_crowd.ps := by
      refine' Bk.defAt_mk KX Gm P_k74.bd_shows_crowd ?a ?l ?c ?k; (case a => k_is); (case l => k_is); (case c => k_is); (case k => k_is)
    have d_units_suffice : Bk.DefAtX KX mg "units_suffice" P_k74.r_units_suffice.st P_k74.r_units_suffice.ps := by
      refine' Bk.defAt_mk KX Gm P_k74.bd_units_suffice ?a ?l ?c ?k; (case a => k_is); (case l => k_is); (case c => k_is); (case k => k_is)
    have d__law_refill : Bk.DefAtX KX mg "_law_refill" P_k74.r__law_refill.st P_k74.r__law_refill.ps := by
      refine' Bk.defAt_mk KX Gm P_k74.bd__law_refill ?a ?l ?c ?k; (case a => k_is); (case l => k_is); (case c => k_is); (case k => k_is)
    have d__law_draw : Bk.DefAtX KX mg "_law_draw" P_k74.r__law_draw.st P_k74.r__law_draw.ps := by
      refine' Bk.defAt_mk KX Gm P_k74.bd__law_draw ?a ?l ?c ?k; (case a => k_is); (case l => k_is); (case c => k_is); (case k => k_is)
    have d__law_exact : Bk.DefAtX KX mg "_law_exact" P_k74.r__law_exact.st P_k74.r__law_exact.ps := by
      refine' Bk.defAt_mk KX Gm P_k74.bd__law_exact ?a ?l ?c ?k; (case a => k_is); (case l => k_is); (case c => k_is); (case k => k_is)
    have d__law_shuffled : Bk.DefAtX KX mg "_law_shuffled" P_k74.r__law_shuffled.st P_k74.r__law_shuffled.ps := by
      refine' Bk.defAt_mk KX Gm P_k74.bd__law_shuffled ?a ?l ?c ?k; (case a => k_is); (case l => k_is); (case c => k_is); (case k => k_is)
    have d__law_due : Bk.DefAtX KX mg "_law_due" P_k74.r__law_due.st P_k74.r__law_due.ps := by
      refine' Bk.defAt_mk KX Gm P_k74.bd__law_due ?a ?l ?c ?k; (case a => k_is); (case l => k_is); (case c => k_is); (case k => k_is)
    have d__law_counted : Bk.DefAtX KX mg "_law_counted" P_k74.r__law_counted.st P_k74.r__law_counted.ps := by
      refine' Bk.defAt_mk KX Gm P_k74.bd__law_counted ?a ?l ?c ?k; (case a => k_is); (case l => k_is); (case c => k_is); (case k => k_is)
    have d_law : Bk.DefAtX KX mg "law" P_k74.r_law.st P_k74.r_law.ps := by
      refine' Bk.defAt_mk KX Gm P_k74.bd_law ?a ?l ?c ?k; (case a => k_is); (case l => k_is); (case c => k_is); (case k => k_is)
    have b_all : mg "all" = none := by
      refine' PySem.W.mg_none_of KX Gm ?a; (case a => k_is)
    have b_bool : mg "bool" = none := by
      refine' PySem.W.mg_none_of KX Gm ?a; (case a => k_is)
    have b_int : mg "int" = none := by
      refine' PySem.W.mg_none_of KX Gm ?a; (case a => k_is)
    have b_isinstance : mg "isinstance" = none := by
      refine' PySem.W.mg_none_of KX Gm ?a; (case a => k_is)
    have b_len : mg "len" = none := by
      refine' PySem.W.mg_none_of KX Gm ?a; (case a => k_is)
    have b_list : mg "list" = none := by
      refine' PySem.W.mg_none_of KX Gm ?a; (case a => k_is)
    have b_max : mg "max" = none := by
      refine' PySem.W.mg_none_of KX Gm ?a; (case a => k_is)
    have b_min : mg "min" = none := by
      refine' PySem.W.mg_none_of KX Gm ?a; (case a => k_is)
    have b_range : mg "range" = none := by
      refine' PySem.W.mg_none_of KX Gm ?a; (case a => k_is)
    have b_sorted : mg "sorted" = none := by
      refine' PySem.W.mg_none_of KX Gm ?a; (case a => k_is)
    have b_str : mg "str" = none := by
      refine' PySem.W.mg_none_of KX Gm ?a; (case a => k_is)
    have b_sum : mg "sum" = none := by
      refine' PySem.W.mg_none_of KX Gm ?a; (case a => k_is)
    have b_tuple : mg "tuple" = none := by
      refine' PySem.W.mg_none_of KX Gm ?a; (case a => k_is)
    have b_zip : mg "zip" = none := by
      refine' PySem.W.mg_none_of KX Gm ?a; (case a => k_is)
    have T : Bk.TxX KX P_k74.G mg := Bk.tx_mk ⟨d_at_tick, d_times_for, d_crowd, d_shows_crowd, d_units_suffice, d__law_refill, d__law_draw, d__law_exact, d__law_shuffled, d__law_due, d__law_counted, d_law, trivial⟩ trivial ⟨b_all, b_bool, b_int, b_isinstance, b_len, b_list, b_max, b_min, b_range, b_sorted, b_str, b_sum, b_tuple, b_zip, trivial⟩
    have gT_0 : Bk.GenAtX KX mg "shows_crowd" 37 35 := by
      refine' Bk.genAt_mk KX Gm ?b (by kernel_rfl) (by kernel_rfl) ?a; (case a => k_is); (case b => kernel_rfl)
    have gT : Bk.AllT (Bk.GenAt _ mg) [(("shows_crowd" : PySem.Str), (37 : PySem.Addr), (35 : PySem.Addr))] := ⟨gT_0, trivial⟩
    exact Bk.lawAt_mk P_k74.law_true P_k74.okG KX T (Bk.excTx_nil rfl) gT (PySem.W.km_tabs_of Y) (by decide +kernel) (r := P_k74.r_law) rfl rfl hmg d_law

