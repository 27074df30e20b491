import PyProof.Rows.All
import Wide.All
import OpenK.AllK
import Wide.FinOn
import HandS.ForMost
import HandS.More
import HandS.WordsExc
import HandS.Defaults
import HandS.Codes
import HandS.Style
import HandS.IsInst
import HandS.TupAny
import HandS.DictComp
import HandS.NoneIn
import HandS.Conv
import HandS.Small
import HandS.TupLe
import KE.KAssignIn
import HandS.ExcInit
import HandS.ExcField
import HandS.Lambda
import HandS.HeadWalk
import HandS.HeadHook4
import KE.KStateDown
import HandS.Head0
import HandS.Head1
import HandS.Head2
import HandS.HeadEnd
import HandS.HeadHook1
import HandS.HeadHook2
import PySem.Challenge.RW_textways_k75_whole_edits_behind_edits
set_option Elab.async false
set_option linter.all false
set_option maxRecDepth 100000
set_option maxHeartbeats 0
/-! Readings of pure expressions by data. -/
namespace T
open PySem PySem.Spec L2
open PyProof.Rows hiding St

/-! ### heaps that keep -/
theorem sm_rd {H H' : Hp} {a : Addr} {u : HO} (e : Same H H') (h : Rd H a u) : Rd H' a u := by
  rcases h with h | ⟨o, h⟩
  · exact .inl (e a _ h)
  · exact .inr ⟨o, e a _ h⟩
theorem sm_t {K : PySem.W.Frag} {H H' : Hp} {a : Addr} {xs : List V} (e : Same H H') (h : SqT K H a xs) : SqT K H' a xs := by
  rcases h with h | h
  · exact .inl (sm_rd e h)
  · exact .inr h
theorem sm_new {H : Hp} {p : Addr} {o : HO} (h : H p = none) : Same H (upd H p o) := fun b x e => by
  rw [upd_ne (ne_of_none e h)]
  exact e
theorem sm_mut {H H' : Hp} {p : Addr} {o : HO} (e : Same H H') (h : H p = none) : Same H (upd H' p o) := fun b x he => by
  rw [upd_ne (ne_of_none he h)]
  exact e b x he
/-! ### data by values: lists that stand by themselves, tuples that are read -/
mutual
inductive Dd (K : PySem.W.Frag) (H : Hp) : V → PyData → Prop
  | non : Dd K H .non .none
  | bl (b : Bool) : Dd K H (.bl b) (.bool b)
  | int (i : Int) : Dd K H (.int i) (.int i)
  | str (x : Str) : Dd K H (.str x) (.str x)
  | lst {a : Addr} {xs : List V} {ds : List PyData} : H a = some (.lst xs) → DdA K H xs ds → Dd K H (.ref a) (.list ds)
  | tup {a : Addr} {xs : List V} {ds : List PyData} : SqT K H a xs → DdA K H xs ds → Dd K H (.ref a) (.tuple ds)
inductive DdA (K : PySem.W.Frag) (H : Hp) : List V → List PyData → Prop
  | nil : DdA K H [] []
  | cons {v : V} {vs : List V} {d : PyData} {ds : List PyData} : Dd K H v d → DdA K H vs ds → DdA K H (v :: vs) (d :: ds)
end
mutual
theorem dd_dp {K : PySem.W.Frag} {H : Hp} : ∀ (d : PyData) (v : V), Dd K H v d → Dp K H v d
  | .none, _, h => by cases h; exact .non
  | .bool b, _, h => by cases h; exact .bl b
  | .int i, _, h => by cases h; exact .int i
  | .str x, _, h => by cases h; exact .str x
  | .list ds, _, h => by
    cases h with
    | lst hs ha => exact .lst (.of hs) (dda_dpa ds _ ha)
  | .tuple ds, _, h => by
    cases h with
    | tup hs ha => exact .tup hs (dda_dpa ds _ ha)
  | .dict _, _, h => by cases h
theorem dda_dpa {K : PySem.W.Frag} {H : Hp} : ∀ (ds : List PyData) (vs : List V), DdA K H vs ds → DpAll K H vs ds
  | [], _, h => by cases h; exact .nil
  | d :: ds, _, h => by
    cases h with
    | cons h1 h2 => exact .cons (dd_dp d _ h1) (dda_dpa ds _ h2)
end
mutual
theorem dd_sm {K : PySem.W.Frag} {H H' : Hp} (e : Same H H') : ∀ (d : PyData) (v : V), Dd K H v d → Dd K H' v d
  | .none, _, h => by cases h; exact .non
  | .bool b, _, h => by cases h; exact .bl b
  | .int i, _, h => by cases h; exact .int i
  | .str x, _, h => by cases h; exact .str x
  | .list ds, _, h => by
    cases h with
    | lst hs ha => exact .lst (e _ _ hs) (dda_sm e ds _ ha)
  | .tuple ds, _, h => by
    cases h with
    | tup hs ha => exact .tup (sm_t e hs) (dda_sm e ds _ ha)
  | .dict _, _, h => by cases h
theorem dda_sm {K : PySem.W.Frag} {H H' : Hp} (e : Same H H') : ∀ (ds : List PyData) (vs : List V), DdA K H vs ds → DdA K H' vs ds
  | [], _, h => by cases h; exact .nil
  | d :: ds, _, h => by
    cases h with
    | cons h1 h2 => exact .cons (dd_sm e d _ h1) (dda_sm e ds _ h2)
end
/-! ### what never changes: tuples and flat things -/
mutual
def imm : PyData → Bool
  | .none => true
  | .bool _ => true
  | .int _ => true
  | .str _ => true
  | .list _ => false
  | .tuple xs => immAll xs
  | .dict _ => false
def immAll : List PyData → Bool
  | [] => true
  | d :: ds => imm d && immAll ds
end
/-- tuples are kept -/
def Ts (H H' : Hp) : Prop := ∀ a xs, Rd H a (.tup xs) → Rd H' a (.tup xs)
theorem Ts.refl (H : Hp) : Ts H H := fun _ _ h => h
theorem Ts.trans {H H1 H2 : Hp} (a : Ts H H1) (b : Ts H1 H2) : Ts H H2 := fun x xs h => b x xs (a x xs h)
theorem Ts.of {H H' : Hp} (e : Same H H') : Ts H H' := fun _ _ h => sm_rd e h
theorem Ts.put {H : Hp} {p : Addr} {u o : HO} (h : H p = some u) (n : ∀ xs, u ≠ .tup xs) (n2 : ∀ ob v, u ≠ .frz ob v) : Ts H (upd H p o) := fun a xs r => by
  rcases r with r | ⟨ob, r⟩
  · exact .inl (by rw [upd_ne (fun z => n xs (Option.some.inj (by rw [← h, ← z, r])))]; exact r)
  · exact .inr ⟨ob, by rw [upd_ne (fun z => n2 ob _ (Option.some.inj (by rw [← h, ← z, r])))]; exact r⟩
mutual
theorem dd_ts {K : PySem.W.Frag} {H H' : Hp} (e : Ts H H') : ∀ (d : PyData) (v : V), imm d = true → Dd K H v d → Dd K H' v d
  | .none, _, _, h => by cases h; exact .non
  | .bool b, _, _, h => by cases h; exact .bl b
  | .int i, _, _, h => by cases h; exact .int i
  | .str x, _, _, h => by cases h; exact .str x
  | .list ds, _, hi, h => by cases hi
  | .tuple ds, _, hi, h => by
    cases h with
    | tup hs ha =>
      refine .tup ?_ (dda_ts e ds _ hi ha)
      rcases hs with hs | hs
      · exact .inl (e _ _ hs)
      · exact .inr hs
  | .dict _, _, _, h => by cases h
theorem dda_ts {K : PySem.W.Frag} {H H' : Hp} (e : Ts H H') : ∀ (ds : List PyData) (vs : List V), immAll ds = true → DdA K H vs ds → DdA K H' vs ds
  | [], _, _, h => by cases h; exact .nil
  | d :: ds, _, hi, h => by
    have hi' : (imm d && immAll ds) = true := hi
    obtain ⟨h1, h2⟩ := Bool.and_eq_true_iff.mp hi'
    cases h with
    | cons a b => exact .cons (dd_ts e d _ h1 a) (dda_ts e ds _ h2 b)
end
/-! ### data read -/
section
variable {K : PySem.W.Frag} {H : Hp}
theorem dd_int {v : V} {i : Int} (h : Dd K H v (.int i)) : v = .int i := by cases h; rfl
theorem dd_str {v : V} {x : Str} (h : Dd K H v (.str x)) : v = .str x := by cases h; rfl
theorem dd_bl {v : V} {b : Bool} (h : Dd K H v (.bool b)) : v = .bl b := by cases h; rfl
theorem dd_non {v : V} (h : Dd K H v .none) : v = .non := by cases h; rfl
theorem dd_list {v : V} {ds : List PyData} (h : Dd K H v (.list ds)) : ∃ a xs, v = .ref a ∧ H a = some (.lst xs) ∧ DdA K H xs ds := by
  cases h with
  | lst hs ha => exact ⟨_, _, rfl, hs, ha⟩
theorem dd_tup {v : V} {ds : List PyData} (h : Dd K H v (.tuple ds)) : ∃ a xs, v = .ref a ∧ SqT K H a xs ∧ DdA K H xs ds := by
  cases h with
  | tup hs ha => exact ⟨_, _, rfl, hs, ha⟩
theorem dda_len : ∀ {vs : List V} {ds : List PyData}, DdA K H vs ds → vs.length = ds.length
  | _, _, .nil => rfl
  | _, _, .cons _ t => by rw [List.length_cons, List.length_cons, dda_len t]
theorem dda_get : ∀ {vs : List V} {ds : List PyData} {i : Nat} {d : PyData}, DdA K H vs ds → ds[i]? = some d → ∃ v, vs[i]? = some v ∧ Dd K H v d
  | _, _, _, _, .nil, h => by simp at h
  | _, _, 0, _, .cons a _, h => by
    simp at h
    subst h
    exact ⟨_, rfl, a⟩
  | _, _, i + 1, _, .cons _ t, h => by
    obtain ⟨v, h1, h2⟩ := dda_get (i := i) t (by simpa using h)
    exact ⟨v, by simpa using h1, h2⟩
theorem dda_get' : ∀ {vs : List V} {ds : List PyData} {i : Nat} {v : V}, DdA K H vs ds → vs[i]? = some v → ∃ d, ds[i]? = some d ∧ Dd K H v d
  | _, _, _, _, .nil, h => by simp at h
  | _, _, 0, _, .cons a _, h => by
    simp at h
    subst h
    exact ⟨_, rfl, a⟩
  | _, _, i + 1, _, .cons _ t, h => by
    obtain ⟨v, h1, h2⟩ := dda_get' (i := i) t (by simpa using h)
    exact ⟨v, by simpa using h1, h2⟩
theorem dda_app : ∀ {vs us : List V} {ds es : List PyData}, DdA K H vs ds → DdA K H us es → DdA K H (vs ++ us) (ds ++ es)
  | _, _, _, _, .nil, b => b
  | _, _, _, _, .cons a t, b => .cons a (dda_app t b)
theorem dda_drop : ∀ {vs : List V} {ds : List PyData} (n : Nat), DdA K H vs ds → DdA K H (vs.drop n) (ds.drop n)
  | _, _, 0, h => h
  | _, _, _ + 1, .nil => .nil
  | _, _, n + 1, .cons _ t => dda_drop n t
theorem dda_take : ∀ {vs : List V} {ds : List PyData} (n : Nat), DdA K H vs ds → DdA K H (vs.take n) (ds.take n)
  | _, _, 0, _ => .nil
  | _, _, _ + 1, .nil => .nil
  | _, _, n + 1, .cons a t => .cons a (dda_take n t)
theorem dda_rev : ∀ {vs : List V} {ds : List PyData}, DdA K H vs ds → DdA K H vs.reverse ds.reverse
  | _, _, .nil => .nil
  | _, _, .cons a t => by
    rw [List.reverse_cons, List.reverse_cons]
    exact dda_app (dda_rev t) (.cons a .nil)
theorem dda_ints : ∀ {ns : List Int} {vs : List V}, DdA K H vs (ns.map PyData.int) → vs = ns.map V.int
  | [], _, h => by cases h; rfl
  | n :: ns, _, h => by
    cases h with
    | cons a b =>
      rw [dd_int a, dda_ints b]
      rfl
theorem dda_strs : ∀ {ns : List Str} {vs : List V}, DdA K H vs (ns.map PyData.str) → vs = ns.map V.str
  | [], _, h => by cases h; rfl
  | n :: ns, _, h => by
    cases h with
    | cons a b =>
      rw [dd_str a, dda_strs b]
      rfl
theorem dda_bls : ∀ {ns : List Bool} {vs : List V}, DdA K H vs (ns.map PyData.bool) → vs = ns.map V.bl
  | [], _, h => by cases h; rfl
  | n :: ns, _, h => by
    cases h with
    | cons a b =>
      rw [dd_bl a, dda_bls b]
      rfl
theorem dda_of_ints : ∀ {ns : List Int}, DdA K H (ns.map V.int) (ns.map PyData.int)
  | [] => .nil
  | n :: ns => .cons (.int n) dda_of_ints
theorem dda_of_strs : ∀ {ns : List Str}, DdA K H (ns.map V.str) (ns.map PyData.str)
  | [] => .nil
  | n :: ns => .cons (.str n) dda_of_strs
theorem dda_rep {v : V} {d : PyData} (h : Dd K H v d) : ∀ n : Nat, DdA K H (List.replicate n v) (List.replicate n d)
  | 0 => .nil
  | n + 1 => .cons h (dda_rep h n)
theorem dda_set : ∀ {vs : List V} {ds : List PyData} {v : V} {d : PyData} (i : Nat), DdA K H vs ds → Dd K H v d → DdA K H (vs.set i v) (ds.set i d)
  | _, _, _, _, _, .nil, _ => .nil
  | _, _, _, _, 0, .cons _ t, h => .cons h t
  | _, _, _, _, i + 1, .cons a t, h => .cons a (dda_set i t h)
end
end T

namespace T
open PySem PySem.Spec L2
open PyProof.Rows hiding St
/-! ### rules for operators, whatever the values are -/
def rAddU (K : PySem.W.Frag) : R2 := fun x y H Q => (rI0 (fun i j => .int (i + j)) x y H Q) ∨ (∃ i j, x = .str i ∧ y = .str j ∧ i.length + j.length ≤ sizeLine ∧ Q (.str (i ++ j)) H) ∨ rCat x y H Q ∨ rCatA K x y H Q
def rMulU : R2 := fun x y H Q => rI CMul (fun i j => .int (i * j)) x y H Q ∨ rRep x y H Q
def rEqU (K : PySem.W.Frag) : R2 := fun x y H Q => rEq x y H Q ∨ rEqD K x y H Q
def rNeU (K : PySem.W.Frag) : R2 := fun x y H Q => rNe x y H Q ∨ rNeD K x y H Q
def rInU (K : PySem.W.Frag) (neg : Bool) : R2 := fun x y H Q => rIn K neg x y H Q ∨ (∃ (c : Nat) (z : Str), x = .str ⟨#[c]⟩ ∧ y = .str z ∧ Q (.bl (if neg then !decide (c ∈ z.cps.toList) else decide (c ∈ z.cps.toList))) H)
def rSlU (K : PySem.W.Frag) : V → Option Int → Option Int → Hp → VK → Prop := fun x lo hi H Q => rSlL K x lo hi H Q ∨ rSlS x lo hi H Q ∨ rSlA K x lo hi H Q
def rLenU (K : PySem.W.Frag) : List V → Hp → VK → Prop := fun xs H Q => (∃ x n, xs = [x] ∧ LenV K x H n ∧ Q (.int n) H) ∨ ∃ a kvs, xs = [V.ref a] ∧ H a = some (.dK kvs) ∧ Q (.int kvs.length) H
def rIntU : List V → Hp → VK → Prop := fun xs H Q => ((∃ i, xs = [.int i] ∧ Q (.int i) H) ∨ ∃ k, xs = [.bl k] ∧ Q (.int (if k then 1 else 0)) H) ∨ ∃ a n, xs = [.str a] ∧ PySem.intText? a = some n ∧ a.length ≤ 640 ∧ Q (.int n) H
section
variable {X : Cx} (K : PySem.W.Frag)
theorem uAdd (h : X.K = K := by rfl) : OpR X (binaryOp .Add) (rAddU K) := by subst h; exact op_add.or (op_add_str.or (op_cat.or op_catA))
theorem uMul : OpR X (binaryOp .Mult) rMulU := op_mul.or op_rep
theorem uEq (hu : X.A.units + 64 < cLine) (h : X.K = K := by rfl) : OpR X (compareOp .Eq) (rEqU K) := by subst h; exact op_eq.or (op_eqD hu)
theorem uNe (hu : X.A.units + 64 < cLine) (h : X.K = K := by rfl) : OpR X (compareOp .NotEq) (rNeU K) := by subst h; exact op_ne.or (op_neD hu)
theorem uIn (h : X.K = K := by rfl) : OpR X (compareOp .In) (rInU K false) := by subst h; exact op_in_seq.or op_in_sign
theorem uNotIn (h : X.K = K := by rfl) : OpR X (compareOp .NotIn) (rInU K true) := by subst h; exact op_notIn_seq.or op_notIn_sign
theorem uSl (h : X.K = K := by rfl) : SlR X (rSlU K) := by subst h; exact sl_list.or (sl_str.or sl_tupA)
theorem uIx (h : X.K = K := by rfl) : IxR X (rIx K) := by subst h; exact ix_seq
theorem uLen (h : X.K = K := by rfl) : CallR X (.builtin "len") (rLenU K) := by subst h; exact call_len.or call_lenD
theorem uInt : CallR X (.type "int") rIntU := call_int1.or call_int_str
theorem uSum (hc : X.calm = true) (h : X.K = K := by rfl) : CallR X (.builtin "sum") (rSum K) := by subst h; exact cr_sum hc
theorem uAll (hc : X.calm = true) (h : X.K = K := by rfl) : CallR X (.builtin "all") (rAll K) := by subst h; exact cr_all hc
theorem uIsi (h : X.K = K := by rfl) : CallR X (.builtin "isinstance") (rIsi K) := by subst h; exact call_isi
def rTupU (K : PySem.W.Frag) : List V → Hp → VK → Prop := fun xs H Q => ∃ p ys, xs = [.ref p] ∧ ((SqL K H p ys ∧ ∀ l, H l = none → Q (.ref l) (upd H l (.tup ys))) ∨ (SqT K H p ys ∧ Q (.ref p) H))
theorem uTuple (h : X.K = K := by rfl) : CallR X (.type "tuple") (rTupU K) := by subst h; exact call_tuple_of
def rLstU (K : PySem.W.Frag) : List V → Hp → VK → Prop := fun xs H Q => ∃ p ys, xs = [.ref p] ∧ (SqL K H p ys ∨ SqT K H p ys) ∧ ∀ l, H l = none → Q (.ref l) (upd H l (.lst ys))
theorem uList (h : X.K = K := by rfl) : CallR X (.type "list") (rLstU K) := by subst h; exact call_list_of
def rStrI : List V → Hp → VK → Prop := fun xs H Q => ∃ i, xs = [.int i] ∧ i.natAbs.log2 < 1920 ∧ Q (.str (toString i)) H
theorem uStr : CallR X (.type "str") rStrI := call_str_int
def rMin2 : List V → Hp → VK → Prop := fun xs H Q => ∃ i j, xs = [.int i, .int j] ∧ Q (.int (if j < i then j else i)) H
def rMax2 : List V → Hp → VK → Prop := fun xs H Q => ∃ i j, xs = [.int i, .int j] ∧ Q (.int (if j > i then j else i)) H
theorem uMin (hc : X.calm = true) : CallR X (.builtin "min") rMin2 := call_min2 hc
theorem uMax (hc : X.calm = true) : CallR X (.builtin "max") rMax2 := call_max2 hc
def rJoinU (K : PySem.W.Frag) : V → List V → Hp → VK → Prop := fun x xs H Q => ∃ a p, ∃ ys : List Str, x = .str a ∧ xs = [.ref p] ∧ (SqL K H p (ys.map V.str) ∨ SqT K H p (ys.map V.str)) ∧ (ys.map (·.length)).sum + ys.length * a.length ≤ 16777216 ∧ Q (.str (Txt.join a ys)) H
theorem uJoin {o e : Expr} {to te : TE} {apos pos : Pos} (ho : PE X o to) (he : PE X e te) (hbase : attributeBase o "join" X.env (eval o X.env) = eval o X.env := by rfl) (hline : (apos.endLine == pos.line) = true := by rfl)
    (hst : starEach [e] X.env = [(false, eval e X.env)] := by rfl) (hk : X.K = K := by rfl) : PE X (.Call (.Attribute o "join" apos) [e] [] pos) (tM1 (rJoinU K) to te) := by
  subst hk
  exact pe_join ho he hst hbase hline
theorem uPgTup {es : List Expr} {k n : Nat} {t : TGs} {pos : Pos} (hc : X.calm = true) (hp : PGs X es t) (hn : (assignEach es X.env).length = n := by rfl) (hst : (assignEach es X.env).findIdx? (·.1) = none := by rfl) (h : X.K = K := by rfl) : PG X (.Tuple es k pos) (gTup K n t) := by
  subst h
  exact pg_tup hc hp hn hst
theorem uPiList {e tg : Expr} {te : TE} (he : PE X e te) (h : X.K = K := by rfl) : PI X tg e (iList K te) := by subst h; exact pi_list he
theorem uPiTup {e tg : Expr} {te : TE} (he : PE X e te) (h : X.K = K := by rfl) : PI X tg e (iTup K te) := by subst h; exact pi_tup he
theorem uPtTruth {a : Expr} {ta : TE} (ha : PE X a ta) (he : ∀ whole, isTrue a X.env whole = (do let v ← whole; standAt a.pos; holding [v] (truthy v)) := by intro _; rfl) (h : X.K = K := by rfl) : PT X a (fun σ H Q => ta σ H fun x H' => ∃ k, TruV K x H' k ∧ Q k H') := by
  subst h
  exact pt_truth ha he
theorem uFld {e : Expr} {f : Str} {ta : TE} {pos : Pos} (he : PE X e ta) (hb : attributeBase e f X.env (eval e X.env) = eval e X.env := by rfl) (h : X.K = K := by rfl) : PE X (.Attribute e f pos) (tFld K ta f) := by subst h; exact pe_fld he hb
end
/-! ### texts as lists of codes -/
def tx (l : List Nat) : Str := ⟨l.toArray⟩
theorem tx_cps (l : List Nat) : (tx l).cps.toList = l := by simp [tx]
theorem tx_len (l : List Nat) : (tx l).length = l.length := by show l.toArray.size = _; simp
theorem tx_app (a b : List Nat) : tx a ++ tx b = tx (a ++ b) := by
  have : tx a ++ tx b = (⟨a.toArray ++ b.toArray⟩ : Str) := rfl
  rw [this]
  simp [tx]
theorem tx_inj {a b : List Nat} (h : tx a = tx b) : a = b := by
  have := congrArg (fun s : Str => s.cps.toList) h
  simpa [tx] using this
theorem tx_dec (a b : List Nat) : decide (V.str (tx a) = V.str (tx b)) = decide (a = b) := by
  by_cases h : a = b
  · subst h; simp
  · have : ¬ V.str (tx a) = V.str (tx b) := fun e => h (tx_inj (V.str.inj e))
    simp [h, this]
theorem tx_beq (a b : List Nat) : ((tx a) == (tx b)) = decide (a = b) := by
  by_cases h : a = b
  · subst h; simp
  · have : ¬ (tx a) = (tx b) := fun e => h (tx_inj e)
    simp [h, this]
/-! ### what an expression's reading evaluates to -/
section
variable (K : PySem.W.Frag)
def EvD (te : TE) (σ : St) (H : Hp) (d : PyData) : Prop := ∀ H1, Same H H1 → ∀ Q : VK, (∀ v H2, Same H1 H2 → Dd K H2 v d → Q v H2) → te σ H1 Q
def EvA (ta : TA) (σ : St) (H : Hp) (ds : List PyData) : Prop := ∀ H1, Same H H1 → ∀ Q : List V → Hp → Prop, (∀ vs H2, Same H1 H2 → DdA K H2 vs ds → Q vs H2) → ta σ H1 Q
def EvT (tt : TT) (σ : St) (H : Hp) (b : Bool) : Prop := ∀ H1, Same H H1 → ∀ Q : Bool → Hp → Prop, (∀ H2, Same H1 H2 → Q b H2) → tt σ H1 Q
def EvO (to : TO) (σ : St) (H : Hp) (o : Option Int) : Prop := ∀ H1, Same H H1 → ∀ Q : Option Int → Hp → Prop, (∀ H2, Same H1 H2 → Q o H2) → to σ H1 Q
/-- a new list -/
def EvL (te : TE) (σ : St) (H : Hp) (ds : List PyData) : Prop := ∀ H1, Same H H1 → ∀ Q : VK, (∀ p xs H2, H1 p = none → Same H1 H2 → H2 p = some (.lst xs) → DdA K H2 xs ds → Q (.ref p) H2) → te σ H1 Q
/-- the promise of a def that makes a new list of data -/
def spN (R : List PyData → List PyData → Prop) : Sp := fun vs H Q _ => ∃ ds es, R ds es ∧ DdA K H vs ds ∧ ∀ p xs H2, H p = none → Same H H2 → H2 p = some (.lst xs) → DdA K H2 xs es → Q (.ref p) H2
def SpL (sp : Sp) (ds es : List PyData) : Prop := ∀ H vs Q E, DdA K H vs ds → (∀ p xs H2, H p = none → Same H H2 → H2 p = some (.lst xs) → DdA K H2 xs es → Q (.ref p) H2) → sp vs H Q E
/-- a call of a def on data -/
def SpD (sp : Sp) (ds : List PyData) (d : PyData) : Prop := ∀ H vs Q E, DdA K H vs ds → (∀ v H2, Same H H2 → Dd K H2 v d → Q v H2) → sp vs H Q E
/-- the promise of a def that makes data of data -/
def spD (R : List PyData → PyData → Prop) : Sp := fun vs H Q _ => ∃ ds d, R ds d ∧ DdA K H vs ds ∧ ∀ v H2, Same H H2 → Dd K H2 v d → Q v H2
end
section
variable {K : PySem.W.Frag} {σ : St} {H H' : Hp} {te ta tb tc : TE} {t u : TT} {d e f : PyData} {v : V}
theorem spD.of {R : List PyData → PyData → Prop} {ds : List PyData} {d : PyData} (h : R ds d) : SpD K (spD K R) ds d := fun H vs Q E a q => ⟨ds, d, h, a, q⟩
theorem spN.of {R : List PyData → List PyData → Prop} {ds es : List PyData} (h : R ds es) : SpL K (spN K R) ds es := fun H vs Q E a q => ⟨ds, es, h, a, q⟩
theorem EvL.toD {ds : List PyData} (h : EvL K te σ H ds) : EvD K te σ H (.list ds) := fun H1 s Q q => h H1 s Q fun p xs H2 _ s2 hp hx => q _ H2 s2 (.lst hp hx)
theorem EvL.mono {ds : List PyData} (h : EvL K te σ H ds) (s : Same H H') : EvL K te σ H' ds := fun H1 a Q q => h H1 (s.trans a) Q q
theorem EvL.is {ds es : List PyData} (h : EvL K te σ H ds) (x : ds = es) : EvL K te σ H es := x ▸ h
theorem EvD.mono (h : EvD K te σ H d) (s : Same H H') : EvD K te σ H' d := fun H1 a Q q => h H1 (s.trans a) Q q
theorem EvT.mono {b : Bool} (h : EvT t σ H b) (s : Same H H') : EvT t σ H' b := fun H1 a Q q => h H1 (s.trans a) Q q
theorem EvD.is (h : EvD K te σ H d) (x : d = e) : EvD K te σ H e := x ▸ h
theorem EvT.is {a b : Bool} (h : EvT t σ H a) (x : a = b) : EvT t σ H b := x ▸ h
theorem ev_var {i : Nat} (h : σ[i]? = some (some v)) (hd : Dd K H v d) : EvD K (tVar i) σ H d := fun H1 s _ q => ⟨v, h, q v H1 (.refl _) (dd_sm s d v hd)⟩
theorem ev_int {i : Int} : EvD K (tC (.int i)) σ H (.int i) := fun H1 _ _ q => q _ H1 (.refl _) (.int i)
theorem ev_str {x : Str} : EvD K (tC (.str x)) σ H (.str x) := fun H1 _ _ q => q _ H1 (.refl _) (.str x)
theorem ev_bl {b : Bool} : EvD K (tC (.bl b)) σ H (.bool b) := fun H1 _ _ q => q _ H1 (.refl _) (.bl b)
theorem ev_non : EvD K (tC .non) σ H .none := fun H1 _ _ q => q _ H1 (.refl _) .non
theorem ev_op {r : R2} (ha : EvD K ta σ H d) (hb : EvD K tb σ H e) (hr : ∀ H1, Same H H1 → ∀ x y, Dd K H1 x d → Dd K H1 y e → ∀ Q : VK, (∀ v H2, Same H1 H2 → Dd K H2 v f → Q v H2) → r x y H1 Q) : EvD K (tOp r ta tb) σ H f := fun H1 s Q q =>
  ha H1 s _ fun x H2 s2 dx => hb H2 (s.trans s2) _ fun y H3 s3 dy => hr H3 ((s.trans s2).trans s3) x y (dd_sm s3 _ _ dx) dy Q fun v H4 s4 dv => q v H4 ((s2.trans s3).trans s4) dv
theorem ev_opI {g : Int → Int → V} {i j : Int} (hg : ∀ H, Dd K H (g i j) f) (ha : EvD K ta σ H (.int i)) (hb : EvD K tb σ H (.int j)) : EvD K (tOp (rI0 g) ta tb) σ H f := ev_op ha hb fun H1 _ x y dx dy Q q =>
  ⟨i, j, dd_int dx, dd_int dy, q _ H1 (.refl _) (hg H1)⟩
theorem ev_opC {C : Int → Int → Prop} {g : Int → Int → V} {i j : Int} (hg : ∀ H, Dd K H (g i j) f) (ha : EvD K ta σ H (.int i)) (hb : EvD K tb σ H (.int j)) (hc : C i j) : EvD K (tOp (rI C g) ta tb) σ H f := ev_op ha hb fun H1 _ x y dx dy Q q =>
  ⟨i, j, dd_int dx, dd_int dy, hc, q _ H1 (.refl _) (hg H1)⟩
theorem ev_add {i j : Int} (ha : EvD K ta σ H (.int i)) (hb : EvD K tb σ H (.int j)) : EvD K (tOp (rAddU K) ta tb) σ H (.int (i + j)) := ev_op ha hb fun H1 _ x y dx dy Q q =>
  .inl ⟨i, j, dd_int dx, dd_int dy, q _ H1 (.refl _) (.int _)⟩
theorem ev_addS {a b : List Nat} (ha : EvD K ta σ H (.str (tx a))) (hb : EvD K tb σ H (.str (tx b))) (hl : a.length + b.length ≤ sizeLine := by first | assumption | omega) : EvD K (tOp (rAddU K) ta tb) σ H (.str (tx (a ++ b))) := ev_op ha hb fun H1 _ x y dx dy Q q =>
  .inr (.inl ⟨tx a, tx b, dd_str dx, dd_str dy, by rw [tx_len, tx_len]; exact hl, by rw [tx_app]; exact q _ H1 (.refl _) (.str _)⟩)
theorem ev_addL {a b : List PyData} (ha : EvD K ta σ H (.list a)) (hb : EvD K tb σ H (.list b)) (hl : a.length + b.length ≤ sizeLine) : EvD K (tOp (rAddU K) ta tb) σ H (.list (a ++ b)) := ev_op ha hb fun H1 _ x y dx dy Q q => by
  obtain ⟨p, xs, rfl, hp, hx⟩ := dd_list dx
  obtain ⟨p', ys, rfl, hp', hy⟩ := dd_list dy
  refine .inr (.inr (.inl ⟨p, p', xs, ys, rfl, rfl, hp, hp', by rw [dda_len hx, dda_len hy]; exact hl, fun z hz => q _ _ (sm_new hz) (.lst upd_same ?_)⟩))
  exact dda_app (dda_sm (sm_new hz) _ _ hx) (dda_sm (sm_new hz) _ _ hy)
theorem el_addL {a b : List PyData} (ha : EvD K ta σ H (.list a)) (hb : EvD K tb σ H (.list b)) (hl : a.length + b.length ≤ sizeLine) : EvL K (tOp (rAddU K) ta tb) σ H (a ++ b) := fun H1 s Q q =>
  ha H1 s _ fun x H2 s2 dx => hb H2 (s.trans s2) _ fun y H3 s3 dy => by
    obtain ⟨p, xs, rfl, hp, hx⟩ := dd_list (dd_sm s3 _ _ dx)
    obtain ⟨p', ys, rfl, hp', hy⟩ := dd_list dy
    refine .inr (.inr (.inl ⟨p, p', xs, ys, rfl, rfl, hp, hp', by rw [dda_len hx, dda_len hy]; exact hl, fun z hz => q z _ _ ((s2.trans s3).free hz) ((s2.trans s3).trans (sm_new hz)) upd_same ?_⟩))
    exact dda_app (dda_sm (sm_new hz) _ _ hx) (dda_sm (sm_new hz) _ _ hy)
theorem ev_addT {a b : List PyData} (ha : EvD K ta σ H (.tuple a)) (hb : EvD K tb σ H (.tuple b)) (hl : a.length + b.length ≤ sizeLine) : EvD K (tOp (rAddU K) ta tb) σ H (.tuple (a ++ b)) := ev_op ha hb fun H1 _ x y dx dy Q q => by
  obtain ⟨p, xs, rfl, hp, hx⟩ := dd_tup dx
  obtain ⟨p', ys, rfl, hp', hy⟩ := dd_tup dy
  refine .inr (.inr (.inr ⟨p, p', xs, ys, rfl, rfl, hp, hp', by rw [dda_len hx, dda_len hy]; exact hl, fun e => ?_, fun e1 e2 => ?_, fun _ _ z hz => q _ _ (sm_new hz) (.tup (.of upd_same) ?_)⟩))
  · subst e
    cases hx
    exact q _ H1 (.refl _) dy
  · subst e2
    cases hy
    rw [List.append_nil] at q
    exact q _ H1 (.refl _) dx
  · exact dda_app (dda_sm (sm_new hz) _ _ hx) (dda_sm (sm_new hz) _ _ hy)
theorem ev_mul {i j : Int} (ha : EvD K ta σ H (.int i)) (hb : EvD K tb σ H (.int j)) (hc : CMul i j) : EvD K (tOp rMulU ta tb) σ H (.int (i * j)) := ev_op ha hb fun H1 _ x y dx dy Q q =>
  .inl ⟨i, j, dd_int dx, dd_int dy, hc, q _ H1 (.refl _) (.int _)⟩
theorem flat_rep {α : Type} (x : α) : ∀ n : Nat, (List.replicate n [x]).flatten = List.replicate n x
  | 0 => rfl
  | n + 1 => by rw [List.replicate_succ, List.flatten_cons, flat_rep x n]; rfl
theorem ev_rep1 {k : Int} (ha : EvD K ta σ H (.list [d])) (hb : EvD K tb σ H (.int k)) (hc : 0 ≤ k ∧ k ≤ 16000000) : EvD K (tOp rMulU ta tb) σ H (.list (List.replicate k.toNat d)) := ev_op ha hb fun H1 _ x y dx dy Q q => by
  obtain ⟨p, xs, rfl, hp, hx⟩ := dd_list dx
  cases hx with
  | @cons v _ _ _ h1 h2 =>
    cases h2
    refine .inr ⟨p, k, [v], rfl, dd_int dy, hp, by omega, by omega, ?_, fun z hz => q _ _ (sm_new hz) (.lst upd_same ?_)⟩
    · rw [sizeLine_eq]
      show 1 * k.toNat ≤ 16777216
      omega
    · rw [flat_rep]
      exact dda_rep (dd_sm (sm_new hz) _ _ h1) _
theorem ev_eq (ha : EvD K ta σ H d) (hb : EvD K tb σ H e) (sd : SeqAt.shaped d = true) (se : SeqAt.shaped e = true) : EvD K (tOp (rEqU K) ta tb) σ H (.bool (PyData.eqv d e)) := ev_op ha hb fun H1 _ x y dx dy Q q =>
  .inr ⟨d, e, dd_dp _ _ dx, dd_dp _ _ dy, sd, se, q _ H1 (.refl _) (.bl _)⟩
theorem ev_ne (ha : EvD K ta σ H d) (hb : EvD K tb σ H e) (sd : SeqAt.shaped d = true) (se : SeqAt.shaped e = true) : EvD K (tOp (rNeU K) ta tb) σ H (.bool (!PyData.eqv d e)) := ev_op ha hb fun H1 _ x y dx dy Q q =>
  .inr ⟨d, e, dd_dp _ _ dx, dd_dp _ _ dy, sd, se, q _ H1 (.refl _) (.bl _)⟩
theorem ev_eqI {i j : Int} (ha : EvD K ta σ H (.int i)) (hb : EvD K tb σ H (.int j)) : EvD K (tOp (rEqU K) ta tb) σ H (.bool (decide (i = j))) := ev_op ha hb fun H1 _ x y dx dy Q q => by
  refine .inl ?_
  rw [dd_int dx, dd_int dy]
  refine ⟨rfl, ?_⟩
  rw [dec_int, Bool.beq_eq_decide_eq]
  exact q _ H1 (.refl _) (.bl _)
theorem ev_neI {i j : Int} (ha : EvD K ta σ H (.int i)) (hb : EvD K tb σ H (.int j)) : EvD K (tOp (rNeU K) ta tb) σ H (.bool (!decide (i = j))) := ev_op ha hb fun H1 _ x y dx dy Q q => by
  refine .inl ?_
  rw [dd_int dx, dd_int dy]
  refine ⟨rfl, ?_⟩
  rw [dec_int, Bool.beq_eq_decide_eq]
  exact q _ H1 (.refl _) (.bl _)
theorem ev_eqS {a b : List Nat} (ha : EvD K ta σ H (.str (tx a))) (hb : EvD K tb σ H (.str (tx b))) : EvD K (tOp (rEqU K) ta tb) σ H (.bool (decide (a = b))) := ev_op ha hb fun H1 _ x y dx dy Q q => by
  refine .inl ?_
  rw [dd_str dx, dd_str dy]
  refine ⟨rfl, ?_⟩
  rw [tx_dec]
  exact q _ H1 (.refl _) (.bl _)
theorem ev_neS {a b : List Nat} (ha : EvD K ta σ H (.str (tx a))) (hb : EvD K tb σ H (.str (tx b))) : EvD K (tOp (rNeU K) ta tb) σ H (.bool (!decide (a = b))) := ev_op ha hb fun H1 _ x y dx dy Q q => by
  refine .inl ?_
  rw [dd_str dx, dd_str dy]
  refine ⟨rfl, ?_⟩
  rw [tx_dec]
  exact q _ H1 (.refl _) (.bl _)
/-! tests -/
theorem et_test {b : Bool} (h : EvD K te σ H (.bool b)) : EvT (tTest te) σ H b := fun H1 s Q q => h H1 s _ fun v H2 s2 dv => ⟨b, dd_bl dv, q H2 s2⟩
theorem et_B {b : Bool} (h : EvD K te σ H (.bool b)) : EvT (tB te) σ H b := fun H1 s Q q => h H1 s _ fun v H2 s2 dv => ⟨b, dd_bl dv, q H2 s2⟩
theorem et_and {a b : Bool} (h1 : EvT t σ H a) (h2 : a = true → EvT u σ H b) : EvT (tAnd t u) σ H (a && b) := fun H1 s Q q => h1 H1 s _ fun H2 s2 => by
  cases a with
  | true =>
    show u σ H2 Q
    exact h2 rfl H2 (s.trans s2) Q fun H3 s3 => q H3 (s2.trans s3)
  | false =>
    show Q false H2
    exact q H2 s2
theorem et_or {a b : Bool} (h1 : EvT t σ H a) (h2 : a = false → EvT u σ H b) : EvT (tOr t u) σ H (a || b) := fun H1 s Q q => h1 H1 s _ fun H2 s2 => by
  cases a with
  | true =>
    show Q true H2
    exact q H2 s2
  | false =>
    show u σ H2 Q
    exact h2 rfl H2 (s.trans s2) Q fun H3 s3 => q H3 (s2.trans s3)
theorem et_not {a : Bool} (h1 : EvT t σ H a) : EvT (tNot t) σ H (!a) := fun H1 s _ q => h1 H1 s _ fun H2 s2 => q H2 s2
theorem et_truI {i : Int} (h : EvD K te σ H (.int i)) : EvT (fun σ H Q => te σ H fun x H' => ∃ k, TruV K x H' k ∧ Q k H') σ H (i != 0) := fun H1 s Q q => h H1 s _ fun v H2 s2 dv => ⟨(i != 0), by rw [dd_int dv]; exact rfl, q H2 s2⟩
theorem et_truS {a : List Nat} (h : EvD K te σ H (.str (tx a))) (hl : a.length ≤ sizeLine) : EvT (fun σ H Q => te σ H fun x H' => ∃ k, TruV K x H' k ∧ Q k H') σ H ((a.length : Int) != 0) := fun H1 s Q q => h H1 s _ fun v H2 s2 dv =>
  ⟨((a.length : Int) != 0), by rw [dd_str dv]; exact ⟨by rw [tx_len]; exact hl, by rw [tx_len]⟩, q H2 s2⟩
theorem ev_andV {a b : Bool} (h1 : EvD K ta σ H (.bool a)) (h2 : a = true → EvD K tb σ H (.bool b)) : EvD K (tAndV ta tb) σ H (.bool (a && b)) := fun H1 s Q q => h1 H1 s _ fun v H2 s2 dv => ⟨a, dd_bl dv, by
  cases a with
  | true =>
    show tb σ H2 Q
    exact h2 rfl H2 (s.trans s2) Q fun v H3 s3 => q v H3 (s2.trans s3)
  | false =>
    show Q (.bl false) H2
    exact q _ H2 s2 (.bl _)⟩
theorem ev_orV {a b : Bool} (h1 : EvD K ta σ H (.bool a)) (h2 : a = false → EvD K tb σ H (.bool b)) : EvD K (tOrV ta tb) σ H (.bool (a || b)) := fun H1 s Q q => h1 H1 s _ fun v H2 s2 dv => ⟨a, dd_bl dv, by
  cases a with
  | true =>
    show Q (.bl true) H2
    exact q _ H2 s2 (.bl _)
  | false =>
    show tb σ H2 Q
    exact h2 rfl H2 (s.trans s2) Q fun v H3 s3 => q v H3 (s2.trans s3)⟩
theorem ev_notV {a : Bool} (h1 : EvD K ta σ H (.bool a)) : EvD K (tNotV ta) σ H (.bool (!a)) := fun H1 s _ q => h1 H1 s _ fun v H2 s2 dv => ⟨a, dd_bl dv, q _ H2 s2 (.bl _)⟩
theorem ev_if {b : Bool} (h : EvT t σ H b) (h1 : b = true → EvD K ta σ H d) (h2 : b = false → EvD K tb σ H d) : EvD K (tIf t ta tb) σ H d := fun H1 s Q q => h H1 s _ fun H2 s2 => by
  cases b with
  | true =>
    show ta σ H2 Q
    exact h1 rfl H2 (s.trans s2) Q fun v H3 s3 => q v H3 (s2.trans s3)
  | false =>
    show tb σ H2 Q
    exact h2 rfl H2 (s.trans s2) Q fun v H3 s3 => q v H3 (s2.trans s3)
theorem ev_chain {r r' : R2} {a b : Bool} (h1 : EvD K (tOp r ta tb) σ H (.bool a)) (h2 : EvD K (tOp r' tb tc) σ H (.bool b)) : True := trivial
theorem ev_un {i : Int} (ha : EvD K ta σ H (.int i)) : EvD K (tUn (rU fun i => .int (-i)) ta) σ H (.int (-i)) := fun H1 s Q q => ha H1 s _ fun v H2 s2 dv => ⟨i, dd_int dv, q _ H2 s2 (.int _)⟩
/-! arguments, displays -/
theorem ea_nil : EvA K tNil σ H [] := fun H1 _ _ q => q _ H1 (.refl _) .nil
theorem ea_cons {tr : TA} {ds : List PyData} (h : EvD K te σ H d) (hr : EvA K tr σ H ds) : EvA K (tCons te tr) σ H (d :: ds) := fun H1 s Q q =>
  h H1 s _ fun v H2 s2 dv => hr H2 (s.trans s2) _ fun vs H3 s3 dvs => q _ H3 (s2.trans s3) (.cons (dd_sm s3 _ _ dv) dvs)
theorem ev_tup {ta : TA} {ds : List PyData} (h : EvA K ta σ H ds) (hl : ds.length ≤ sizeLine) : EvD K (tTup ta) σ H (.tuple ds) := fun H1 s Q q =>
  h H1 s _ fun vs H2 s2 dvs => ⟨by rw [dda_len dvs]; exact hl, fun p hp => q _ _ (s2.trans (sm_new hp)) (.tup (.of upd_same) (dda_sm (sm_new hp) _ _ dvs))⟩
theorem ev_lst {ta : TA} {ds : List PyData} (h : EvA K ta σ H ds) (hl : ds.length ≤ sizeLine) : EvD K (tLst ta) σ H (.list ds) := fun H1 s Q q =>
  h H1 s _ fun vs H2 s2 dvs => ⟨by rw [dda_len dvs]; exact hl, fun p hp => q _ _ (s2.trans (sm_new hp)) (.lst upd_same (dda_sm (sm_new hp) _ _ dvs))⟩
theorem eo_none : EvO tNoPart σ H none := fun H1 _ _ q => q H1 (.refl _)
theorem eo_some {i : Int} (h : EvD K te σ H (.int i)) : EvO (tPart te) σ H (some i) := fun H1 s _ q => h H1 s _ fun v H2 s2 dv => ⟨i, dd_int dv, q H2 s2⟩
theorem eo_int {i : Int} : EvO (tPart (tC (.int i))) σ H (some i) := fun H1 _ _ q => ⟨i, rfl, q H1 (.refl _)⟩
/-! subscripts, slices -/
theorem ev_ixL {ds : List PyData} {i : Int} (ha : EvD K ta σ H (.list ds)) (hb : EvD K tb σ H (.int i)) (hi : atI ds i = some d) : EvD K (tOp (rIx K) ta tb) σ H d := ev_op ha hb fun H1 _ x y dx dy Q q => by
  obtain ⟨p, xs, rfl, hp, hx⟩ := dd_list dx
  unfold atI at hi
  cases e : ixN ds.length i with
  | none => rw [e] at hi; cases hi
  | some j =>
    rw [e] at hi
    obtain ⟨v, h1, h2⟩ := dda_get hx hi
    refine .inl ⟨p, xs, i, v, rfl, dd_int dy, .of hp, ?_, q _ H1 (.refl _) h2⟩
    unfold atI
    rw [dda_len hx, e]
    exact h1
theorem ev_ixT {ds : List PyData} {i : Int} (ha : EvD K ta σ H (.tuple ds)) (hb : EvD K tb σ H (.int i)) (hi : atI ds i = some d) : EvD K (tOp (rIx K) ta tb) σ H d := ev_op ha hb fun H1 _ x y dx dy Q q => by
  obtain ⟨p, xs, rfl, hp, hx⟩ := dd_tup dx
  unfold atI at hi
  cases e : ixN ds.length i with
  | none => rw [e] at hi; cases hi
  | some j =>
    rw [e] at hi
    obtain ⟨v, h1, h2⟩ := dda_get hx hi
    refine .inr (.inl ⟨p, xs, i, v, rfl, dd_int dy, hp, ?_, q _ H1 (.refl _) h2⟩)
    unfold atI
    rw [dda_len hx, e]
    exact h1
theorem ev_ixS {a : List Nat} {i : Int} {c : Nat} (ha : EvD K ta σ H (.str (tx a))) (hb : EvD K tb σ H (.int i)) (hl : a.length ≤ sizeLine) (hi : atI a i = some c) : EvD K (tOp (rIx K) ta tb) σ H (.str (tx [c])) := ev_op ha hb fun H1 _ x y dx dy Q q =>
  .inr (.inr ⟨tx a, i, c, dd_str dx, dd_int dy, by rw [tx_len]; exact hl, by rw [tx_cps]; exact hi, q _ H1 (.refl _) (.str _)⟩)
def cut {α : Type} (l : List α) (lo hi : Option Int) : List α := (l.drop (HT.sIx l.length 0 lo)).take (HT.sIx l.length l.length hi - HT.sIx l.length 0 lo)
theorem cut_from {α : Type} (l : List α) (n : Nat) : cut l (some (n : Int)) none = l.drop n := by
  unfold cut
  rw [HT.sIx_nat, HT.sIx_none]
  by_cases h : n ≤ l.length
  · rw [Nat.min_eq_left h]
    exact List.take_of_length_le (by rw [List.length_drop]; omega)
  · rw [Nat.min_eq_right (by omega), List.drop_of_length_le (by omega), List.drop_of_length_le (by omega)]
    simp
theorem cut_to {α : Type} (l : List α) (n : Nat) : cut l none (some (n : Int)) = l.take n := by
  unfold cut
  rw [HT.sIx_nat, HT.sIx_none]
  simp only [List.drop_zero, Nat.sub_zero]
  by_cases h : n ≤ l.length
  · rw [Nat.min_eq_left h]
  · rw [Nat.min_eq_right (by omega), List.take_of_length_le (by omega), List.take_of_length_le (by omega)]
theorem cut_mid {α : Type} (l : List α) (n k : Nat) : cut l (some (n : Int)) (some (k : Int)) = (l.drop n).take (k - n) := by
  unfold cut
  rw [HT.sIx_nat, HT.sIx_nat]
  by_cases h : n ≤ l.length
  · rw [Nat.min_eq_left h]
    by_cases h2 : k ≤ l.length
    · rw [Nat.min_eq_left h2]
    · rw [Nat.min_eq_right (by omega), List.take_of_length_le (by rw [List.length_drop]; omega), List.take_of_length_le (by rw [List.length_drop]; omega)]
  · rw [Nat.min_eq_right (show l.length ≤ n by omega), List.drop_of_length_le (Nat.le_refl _), List.drop_of_length_le (show l.length ≤ n by omega)]
    simp
theorem dda_cut {vs : List V} {ds : List PyData} (lo hi : Option Int) (h : DdA K H vs ds) : DdA K H (cutV vs lo hi) (cut ds lo hi) := by
  unfold cutV cut
  rw [dda_len h]
  exact dda_take _ (dda_drop _ h)
theorem ev_slL {tl th : TO} {ds : List PyData} {lo hi : Option Int} (h : EvD K te σ H (.list ds)) (h1 : EvO tl σ H lo) (h2 : EvO th σ H hi) : EvD K (tSl (rSlU K) te tl th) σ H (.list (cut ds lo hi)) := fun H1 s Q q =>
  h H1 s _ fun v H2 s2 dv => h1 H2 (s.trans s2) _ fun H3 s3 => h2 H3 ((s.trans s2).trans s3) _ fun H4 s4 => by
    obtain ⟨p, xs, rfl, hp, hx⟩ := dd_list (dd_sm (s3.trans s4) _ _ dv)
    exact .inl ⟨p, xs, rfl, .of hp, fun z hz => q _ _ (((s2.trans s3).trans s4).trans (sm_new hz)) (.lst upd_same (dda_sm (sm_new hz) _ _ (dda_cut lo hi hx)))⟩
theorem ev_slT {tl th : TO} {ds : List PyData} {lo hi : Option Int} (h : EvD K te σ H (.tuple ds)) (h1 : EvO tl σ H lo) (h2 : EvO th σ H hi) : EvD K (tSl (rSlU K) te tl th) σ H (.tuple (cut ds lo hi)) := fun H1 s Q q =>
  h H1 s _ fun v H2 s2 dv => h1 H2 (s.trans s2) _ fun H3 s3 => h2 H3 ((s.trans s2).trans s3) _ fun H4 s4 => by
    have dv' := dd_sm (s3.trans s4) _ _ dv
    obtain ⟨p, xs, rfl, hp, hx⟩ := dd_tup dv'
    refine .inr (.inr ⟨p, xs, rfl, hp, fun e => ?_, fun _ z hz => q _ _ (((s2.trans s3).trans s4).trans (sm_new hz)) (.tup (.of upd_same) (dda_sm (sm_new hz) _ _ (dda_cut lo hi hx)))⟩)
    refine q _ _ ((s2.trans s3).trans s4) ?_
    have e2 : cut ds lo hi = ds := by
      unfold cut
      rw [← dda_len hx, e.1, e.2]
      simp only [List.drop_zero, Nat.sub_zero]
      rw [dda_len hx, List.take_length]
    rw [e2]
    exact dv'
theorem ev_slS {tl th : TO} {a : List Nat} {lo hi : Option Int} (h : EvD K te σ H (.str (tx a))) (h1 : EvO tl σ H lo) (h2 : EvO th σ H hi) (hl : a.length ≤ sizeLine) : EvD K (tSl (rSlU K) te tl th) σ H (.str (tx (cut a lo hi))) := fun H1 s Q q =>
  h H1 s _ fun v H2 s2 dv => h1 H2 (s.trans s2) _ fun H3 s3 => h2 H3 ((s.trans s2).trans s3) _ fun H4 s4 => by
    refine .inr (.inl ⟨tx a, dd_str dv, by rw [tx_len]; exact hl, ?_⟩)
    have e : cutS (tx a) lo hi = tx (cut a lo hi) := by
      unfold cutS cut tx
      show (⟨_⟩ : Str) = _
      have : (⟨a.toArray⟩ : Str).length = a.length := tx_len a
      rw [this]
    rw [e]
    exact q _ _ ((s2.trans s3).trans s4) (.str _)
theorem ev_rev {ds : List PyData} (h : EvD K te σ H (.list ds)) : EvD K (tRevL K te) σ H (.list ds.reverse) := fun H1 s Q q =>
  h H1 s _ fun v H2 s2 dv => by
    obtain ⟨p, xs, rfl, hp, hx⟩ := dd_list dv
    exact ⟨p, xs, rfl, .of hp, fun z hz => q _ _ (s2.trans (sm_new hz)) (.lst upd_same (dda_sm (sm_new hz) _ _ (dda_rev hx)))⟩
/-! calls -/
theorem ev_cb {r : List V → Hp → VK → Prop} {ta : TA} {ds : List PyData} (h : EvA K ta σ H ds) (hr : ∀ H1, Same H H1 → ∀ vs, DdA K H1 vs ds → ∀ Q : VK, (∀ v H2, Same H1 H2 → Dd K H2 v d → Q v H2) → r vs H1 Q) : EvD K (tCB r ta) σ H d := fun H1 s Q q =>
  h H1 s _ fun vs H2 s2 dvs => hr H2 (s.trans s2) vs dvs Q fun v H3 s3 => q v H3 (s2.trans s3)
theorem ev_call {sp : Sp} {E : XK} {ta : TA} {ds : List PyData} (h : EvA K ta σ H ds) (hs : SpD K sp ds d) : EvD K (tCall sp [] E ta) σ H d := fun H1 s Q q =>
  h H1 s _ fun vs H2 s2 dvs => by
    rw [List.append_nil]
    exact hs H2 vs Q E dvs fun v H3 s3 => q v H3 (s2.trans s3)
theorem el_call {sp : Sp} {E : XK} {ta : TA} {ds es : List PyData} (h : EvA K ta σ H ds) (hs : SpL K sp ds es) : EvL K (tCall sp [] E ta) σ H es := fun H1 s Q q =>
  h H1 s _ fun vs H2 s2 dvs => by
    rw [List.append_nil]
    exact hs H2 vs Q E dvs fun p xs H3 hp s3 h3 hx => q p xs H3 (s2.free hp) (s2.trans s3) h3 hx
theorem spN_len {R : List PyData → List PyData → Prop} {n : Nat} (h : ∀ ds es, R ds es → ds.length = n) : ∀ (vs : List V) (H : Hp) (Q : VK) (E : XK), spN K R vs H Q E → vs.length = n := fun vs H Q E ⟨ds, d, r, a, _⟩ => (dda_len a).trans (h ds d r)
theorem el_lst {ta : TA} {ds : List PyData} (h : EvA K ta σ H ds) (hl : ds.length ≤ sizeLine) : EvL K (tLst ta) σ H ds := fun H1 s Q q =>
  h H1 s _ fun vs H2 s2 dvs => ⟨by rw [dda_len dvs]; exact hl, fun p hp => q _ _ _ (s2.free hp) (s2.trans (sm_new hp)) upd_same (dda_sm (sm_new hp) _ _ dvs)⟩
theorem dda1 {vs : List V} (h : DdA K H vs [d]) : ∃ x, vs = [x] ∧ Dd K H x d := by
  cases h with
  | cons a b =>
    cases b
    exact ⟨_, rfl, a⟩
theorem dda2 {vs : List V} (h : DdA K H vs [d, e]) : ∃ x y, vs = [x, y] ∧ Dd K H x d ∧ Dd K H y e := by
  cases h with
  | cons a b =>
    obtain ⟨y, rfl, h2⟩ := dda1 b
    exact ⟨_, y, rfl, a, h2⟩
theorem dda3 {vs : List V} (h : DdA K H vs [d, e, f]) : ∃ x y z, vs = [x, y, z] ∧ Dd K H x d ∧ Dd K H y e ∧ Dd K H z f := by
  cases h with
  | cons a b =>
    obtain ⟨y, z, rfl, h2⟩ := dda2 b
    exact ⟨_, y, z, rfl, a, h2⟩
theorem ev_lenS {a : List Nat} (h : EvD K te σ H (.str (tx a))) (hl : a.length ≤ sizeLine) : EvD K (tCB (rLenU K) (tCons te tNil)) σ H (.int (a.length : Nat)) := ev_cb (ea_cons h ea_nil) fun H1 _ vs dvs Q q => by
  obtain ⟨x, rfl, dx⟩ := dda1 dvs
  refine .inl ⟨x, a.length, rfl, ?_, q _ H1 (.refl _) (.int _)⟩
  rw [dd_str dx]
  exact ⟨by rw [tx_len]; exact hl, (tx_len a).symm⟩
theorem ev_lenL {ds : List PyData} (h : EvD K te σ H (.list ds)) : EvD K (tCB (rLenU K) (tCons te tNil)) σ H (.int (ds.length : Nat)) := ev_cb (ea_cons h ea_nil) fun H1 _ vs dvs Q q => by
  obtain ⟨x, rfl, dx⟩ := dda1 dvs
  obtain ⟨p, xs, rfl, hp, hx⟩ := dd_list dx
  exact .inl ⟨_, ds.length, rfl, .inl ⟨xs, .of hp, (dda_len hx).symm⟩, q _ H1 (.refl _) (.int _)⟩
theorem ev_lenT {ds : List PyData} (h : EvD K te σ H (.tuple ds)) : EvD K (tCB (rLenU K) (tCons te tNil)) σ H (.int (ds.length : Nat)) := ev_cb (ea_cons h ea_nil) fun H1 _ vs dvs Q q => by
  obtain ⟨x, rfl, dx⟩ := dda1 dvs
  obtain ⟨p, xs, rfl, hp, hx⟩ := dd_tup dx
  exact .inl ⟨_, ds.length, rfl, .inr ⟨xs, hp, (dda_len hx).symm⟩, q _ H1 (.refl _) (.int _)⟩
theorem ev_intI {i : Int} (h : EvD K te σ H (.int i)) : EvD K (tCB rIntU (tCons te tNil)) σ H (.int i) := ev_cb (ea_cons h ea_nil) fun H1 _ vs dvs Q q => by
  obtain ⟨x, rfl, dx⟩ := dda1 dvs
  exact .inl (.inl ⟨i, by rw [dd_int dx], q _ H1 (.refl _) (.int _)⟩)
theorem ev_intS {x : Str} {n : Int} (h : EvD K te σ H (.str x)) (hn : PySem.intText? x = some n) (hl : x.length ≤ 640) : EvD K (tCB rIntU (tCons te tNil)) σ H (.int n) := ev_cb (ea_cons h ea_nil) fun H1 _ vs dvs Q q => by
  obtain ⟨y, rfl, dx⟩ := dda1 dvs
  exact .inr ⟨x, n, by rw [dd_str dx], hn, hl, q _ H1 (.refl _) (.int _)⟩
theorem ev_strI {i : Int} (h : EvD K te σ H (.int i)) (hl : i.natAbs.log2 < 1920) : EvD K (tCB rStrI (tCons te tNil)) σ H (.str (toString i)) := ev_cb (ea_cons h ea_nil) fun H1 _ vs dvs Q q => by
  obtain ⟨y, rfl, dx⟩ := dda1 dvs
  exact ⟨i, by rw [dd_int dx], hl, q _ H1 (.refl _) (.str _)⟩
theorem ev_tupleL {ds : List PyData} (h : EvD K te σ H (.list ds)) : EvD K (tCB (rTupU K) (tCons te tNil)) σ H (.tuple ds) := ev_cb (ea_cons h ea_nil) fun H1 _ vs dvs Q q => by
  obtain ⟨x, rfl, dx⟩ := dda1 dvs
  obtain ⟨p, xs, rfl, hp, hx⟩ := dd_list dx
  exact ⟨p, xs, rfl, .inl ⟨.of hp, fun z hz => q _ _ (sm_new hz) (.tup (.of upd_same) (dda_sm (sm_new hz) _ _ hx))⟩⟩
theorem ev_sum {ns : List Int} (h : EvD K te σ H (.list (ns.map .int))) : EvD K (tCB (rSum K) (tCons te tNil)) σ H (.int ns.sum) := ev_cb (ea_cons h ea_nil) fun H1 _ vs dvs Q q => by
  obtain ⟨x, rfl, dx⟩ := dda1 dvs
  obtain ⟨p, xs, rfl, hp, hx⟩ := dd_list dx
  exact ⟨p, ns, rfl, by rw [← dda_ints hx]; exact .of hp, q _ H1 (.refl _) (.int _)⟩
theorem ev_all {bs : List Bool} (h : EvD K te σ H (.list (bs.map .bool))) : EvD K (tCB (rAll K) (tCons te tNil)) σ H (.bool (bs.all id)) := ev_cb (ea_cons h ea_nil) fun H1 _ vs dvs Q q => by
  obtain ⟨x, rfl, dx⟩ := dda1 dvs
  obtain ⟨p, xs, rfl, hp, hx⟩ := dd_list dx
  exact ⟨p, bs, rfl, by rw [← dda_bls hx]; exact .of hp, q _ H1 (.refl _) (.bl _)⟩
theorem ev_min2 {i j : Int} (ha : EvD K ta σ H (.int i)) (hb : EvD K tb σ H (.int j)) : EvD K (tCB rMin2 (tCons ta (tCons tb tNil))) σ H (.int (if j < i then j else i)) := ev_cb (ea_cons ha (ea_cons hb ea_nil)) fun H1 _ vs dvs Q q => by
  obtain ⟨x, y, rfl, dx, dy⟩ := dda2 dvs
  exact ⟨i, j, by rw [dd_int dx, dd_int dy], q _ H1 (.refl _) (.int _)⟩
theorem ev_max2 {i j : Int} (ha : EvD K ta σ H (.int i)) (hb : EvD K tb σ H (.int j)) : EvD K (tCB rMax2 (tCons ta (tCons tb tNil))) σ H (.int (if j > i then j else i)) := ev_cb (ea_cons ha (ea_cons hb ea_nil)) fun H1 _ vs dvs Q q => by
  obtain ⟨x, y, rfl, dx, dy⟩ := dda2 dvs
  exact ⟨i, j, by rw [dd_int dx, dd_int dy], q _ H1 (.refl _) (.int _)⟩
theorem ev_join {ls : List (List Nat)} (ha : EvD K ta σ H (.str (tx []))) (hb : EvD K tb σ H (.list (ls.map fun l => .str (tx l)))) (hz : (ls.map (·.length)).sum ≤ 16777216) (he : ∀ ys : List Str, ys = ls.map tx → Txt.join (tx []) ys = tx ls.flatten) :
    EvD K (tM1 (rJoinU K) ta tb) σ H (.str (tx ls.flatten)) := fun H1 s Q q =>
  ha H1 s _ fun v H2 s2 dv => ⟨⟨_, dd_str dv⟩, hb H2 (s.trans s2) _ fun y H3 s3 dy => by
    obtain ⟨p, xs, rfl, hp, hx⟩ := dd_list dy
    have hx' : DdA K H3 xs ((ls.map tx).map PyData.str) := by rw [List.map_map]; exact hx
    refine ⟨tx [], p, ls.map tx, dd_str dv, rfl, .inl (by rw [← dda_strs hx']; exact .of hp), ?_, ?_⟩
    · have e : (List.map tx ls).map (·.length) = ls.map (·.length) := by
        rw [List.map_map]
        exact List.map_congr_left fun l _ => tx_len l
      rw [e, tx_len]
      simpa using hz
    · rw [he _ rfl]
      exact q _ _ (s2.trans s3) (.str _)⟩
end
end T

namespace T
open PySem PySem.Spec L2
open PyProof.Rows hiding St
section
variable {K : PySem.W.Frag} {σ : St} {H H' : Hp} {te ta tb tc : TE} {t u : TT} {d e f : PyData} {v : V}
/-! ### what is walked: data one by one, while Ok holds of the heap -/
structure Yl (K : PySem.W.Frag) (J : It) (Ok : Hp → Prop) (ds : List PyData) : Prop where
  stop : ∀ H, Ok H → J.stop ds.length H
  go : ∀ i d H, ds[i]? = some d → Ok H → J.go i H
  yld : ∀ i d H x H', ds[i]? = some d → Ok H → J.yld i H x H' → Same H H' ∧ Dd K H' x d
/-- .. and no object is made for it -/
def WkD (K : PySem.W.Frag) (wi : TI) (σ : St) (H : Hp) (ds : List PyData) : Prop :=
  ∀ H1, Same H H1 → ∀ R : It → Hp → Prop, (∀ J H2, Same H1 H2 → Yl K J (Same H2) ds → R J H2) → wi σ H1 R
theorem wk_list {ds : List PyData} (h : EvD K te σ H (.list ds)) : WkD K (iList K te) σ H ds := fun H1 s R r => h H1 s _ fun v H2 s2 dv => by
  obtain ⟨p, xs, rfl, hp, hx⟩ := dd_list dv
  refine ⟨p, rfl, ⟨xs, .of hp⟩, r _ H2 s2 ⟨fun H e => ⟨xs, .of (e _ _ hp), by rw [dda_len hx]; exact Nat.le_refl _⟩, fun i d H hi e => ?_, fun i d H x H' hi e hy => ?_⟩⟩
  · obtain ⟨v, h1, _⟩ := dda_get hx hi
    exact ⟨xs, v, .of (e _ _ hp), h1⟩
  · obtain ⟨rfl, hy⟩ := hy
    obtain ⟨v, h1, h2⟩ := dda_get hx hi
    have e1 := hy xs (.of (e _ _ hp))
    rw [h1] at e1
    cases e1
    exact ⟨.refl _, dd_sm e _ _ h2⟩
theorem wk_listL {ds : List PyData} (h : EvL K te σ H ds) : WkD K (iList K te) σ H ds := wk_list (EvL.toD h)
theorem wk_tup {ds : List PyData} (h : EvD K te σ H (.tuple ds)) : WkD K (iTup K te) σ H ds := fun H1 s R r => h H1 s _ fun v H2 s2 dv => by
  obtain ⟨p, xs, rfl, hp, hx⟩ := dd_tup dv
  refine ⟨p, rfl, ⟨xs, hp⟩, r _ H2 s2 ⟨fun H e => ⟨xs, sm_t e hp, by rw [dda_len hx]; exact Nat.le_refl _⟩, fun i d H hi e => ?_, fun i d H x H' hi e hy => ?_⟩⟩
  · obtain ⟨v, h1, _⟩ := dda_get hx hi
    exact ⟨xs, v, sm_t e hp, h1⟩
  · obtain ⟨rfl, hy⟩ := hy
    obtain ⟨v, h1, h2⟩ := dda_get hx hi
    have e1 := hy xs (sm_t e hp)
    rw [h1] at e1
    cases e1
    exact ⟨.refl _, dd_sm e _ _ h2⟩
def sgn (c : Nat) : PyData := .str (tx [c])
theorem yl_str (a : List Nat) (Ok : Hp → Prop) : Yl K (Its (tx a)) Ok (a.map sgn) := by
  have hz : (tx a).cps.size = a.length := tx_len a
  refine ⟨fun H _ => ?_, fun i d H hi _ => ?_, fun i d H x H' hi _ hy => ?_⟩
  · show (tx a).cps.size ≤ _
    rw [hz, List.length_map]
    exact Nat.le_refl _
  · show i < (tx a).cps.size
    rw [hz]
    have := (List.getElem?_eq_some_iff.mp hi).1
    rwa [List.length_map] at this
  · obtain ⟨rfl, c, hc, rfl⟩ := hy
    refine ⟨.refl _, ?_⟩
    rw [List.getElem?_map] at hi
    have hc' : a[i]? = some c := by
      have : (tx a).cps[i]? = (tx a).cps.toList[i]? := by simp
      rw [this, tx_cps] at hc
      exact hc
    rw [hc'] at hi
    cases hi
    exact .str _
theorem wk_str {a : List Nat} (h : EvD K te σ H (.str (tx a))) : WkD K (iStr te) σ H (a.map sgn) := fun H1 s R r => h H1 s _ fun v H2 s2 dv =>
  ⟨tx a, dd_str dv, r _ H2 s2 (yl_str a _)⟩
def rgD (lo : Int) (n : Nat) : List PyData := (List.range n).map fun (i : Nat) => .int (lo + (i : Int))
theorem yl_rng (lo : Int) (n : Nat) (Ok : Hp → Prop) : Yl K (Itr lo n) Ok (rgD lo n) := by
  have hz : (rgD lo n).length = n := by rw [rgD, List.length_map, List.length_range]
  refine ⟨fun H _ => ?_, fun i d H hi _ => ?_, fun i d H x H' hi _ hy => ?_⟩
  · rw [hz]
    exact Nat.le_refl _
  · have := (List.getElem?_eq_some_iff.mp hi).1
    rwa [hz] at this
  · obtain ⟨rfl, rfl⟩ := hy
    refine ⟨.refl _, ?_⟩
    unfold rgD at hi
    rw [List.getElem?_map] at hi
    have hl := (List.getElem?_eq_some_iff.mp (show ((List.range n).map fun (i : Nat) => PyData.int (lo + (i : Int)))[i]? = some d by rw [List.getElem?_map]; exact hi)).1
    rw [List.length_map, List.length_range] at hl
    rw [List.getElem?_range hl] at hi
    cases hi
    exact .int _
theorem wk_rng1 {i : Int} (h : EvD K te σ H (.int i)) (hb : i < 2 ^ 62 ∧ -(2 ^ 62) ≤ i) : WkD K (iRng1 (tCons te tNil)) σ H (rgD 0 i.toNat) := fun H1 s R r => h H1 s _ fun v H2 s2 dv =>
  ⟨i, by rw [dd_int dv], hb.2, hb.1, r _ H2 s2 (yl_rng 0 _ _)⟩
/-! ### targets -/
/-- a target takes d and leaves σ2 -/
def TgD (K : PySem.W.Frag) (g : TG) (σ : St) (d : PyData) (P : St → Hp → Prop) : Prop := ∀ H x, Dd K H x d → ∃ σ2, P σ2 H ∧ ∀ Q : St → Hp → Prop, Q σ2 H → g x σ H Q
/-! ### comprehensions, whose elements never change -/
theorem immAll_of : ∀ {l : List PyData}, (∀ d ∈ l, imm d = true) → immAll l = true
  | [], _ => rfl
  | a :: r, h => by
    show (imm a && immAll r) = true
    rw [h a List.mem_cons_self, immAll_of fun d hd => h d (List.mem_cons_of_mem _ hd)]
    rfl
theorem take_succ_of {α : Type} {l : List α} {i : Nat} {x : α} (h : l[i]? = some x) : l.take (i + 1) = l.take i ++ [x] := by
  rw [List.take_add_one, h]
  rfl
theorem ev_lcG {α : Type} {wi : TI} {g : TG} {tt : TT} {vs : List Nat} {l : List α} {gi : α → PyData} (p : α → Bool) (f : α → PyData) (hw : WkD K wi σ H (l.map gi)) (hz : l.length ≤ 16000000) (him : ∀ a ∈ l, p a = true → imm (f a) = true)
    (ht : ∀ a ∈ l, ∀ H' x, Same H H' → Dd K H' x (gi a) → ∃ σ2, (∀ Q : St → Hp → Prop, Q σ2 H' → g x (wipe σ vs) H' Q) ∧ wipe σ2 vs = wipe σ vs ∧ EvT tt σ2 H' (p a) ∧ (p a = true → EvD K te σ2 H' (f a))) :
    EvL K (tLc wi g tt te vs) σ H ((l.filter p).map f) := fun H1 s Q q => hw H1 s _ fun J H2 s2 Y D hD => by
  refine ⟨fun i m H => m = l.length - i ∧ i ≤ l.length ∧ Same H2 H ∧ ∃ acc, H D = some (.lst acc) ∧ DdA K H acc (((l.take i).filter p).map f) ∧ acc.length ≤ i, ⟨l.length, by simp, Nat.zero_le _, sm_new hD, [], upd_same, .nil, Nat.le_refl _⟩, ?_⟩
  rintro i m H3 ⟨rfl, hi, s3, acc, hacc, hda, hlen⟩
  have himm : ∀ j, immAll (((l.take j).filter p).map f) = true := fun j => immAll_of fun d hd => by
    obtain ⟨a, ha, rfl⟩ := List.mem_map.mp hd
    obtain ⟨h1, h2⟩ := List.mem_filter.mp ha
    exact him a (List.mem_of_mem_take h1) h2
  by_cases hlt : i < l.length
  · obtain ⟨a, ha⟩ : ∃ a, l[i]? = some a := ⟨l[i], by simp [hlt]⟩
    have hd : (l.map gi)[i]? = some (gi a) := by rw [List.getElem?_map, ha]; rfl
    have hmem : a ∈ l := List.mem_of_getElem? ha
    refine .inr ⟨Y.go i _ H3 hd s3, fun H' => Same H2 H' ∧ ∃ acc, H' D = some (.lst acc) ∧ DdA K H' acc (((l.take (i + 1)).filter p).map f) ∧ acc.length ≤ i + 1, fun H' ⟨a, b⟩ => ⟨l.length - (i + 1), by omega, rfl, hlt, a, b⟩, fun x H4 hy => ?_⟩
    obtain ⟨s4, dx⟩ := Y.yld i _ H3 x H4 hd s3 hy
    have s24 : Same H2 H4 := s3.trans s4
    obtain ⟨σ2, hg, hwp, htt, hte⟩ := ht a hmem H4 x ((s.trans s2).trans s24) dx
    refine hg _ ⟨hwp, htt H4 (.refl _) _ fun H5 s5 => ?_⟩
    have hacc5 : H5 D = some (.lst acc) := s5 _ _ (s4 _ _ hacc)
    have hda5 := dda_sm (s4.trans s5) _ _ hda
    cases hp : p a with
    | false =>
      show Same H2 H5 ∧ _
      refine ⟨s24.trans s5, acc, hacc5, ?_, by omega⟩
      rw [take_succ_of ha, List.filter_append, List.filter_cons_of_neg (by simp [hp]), List.filter_nil, List.append_nil]
      exact hda5
    | true =>
      refine (hte hp).mono s5 H5 (.refl _) _ fun y H6 s6 dy => ?_
      refine ⟨acc, s6 _ _ hacc5, by rw [sizeLine_eq]; omega, ?_, acc ++ [y], upd_same, ?_, by rw [List.length_append]; exact Nat.succ_le_succ hlen⟩
      · exact fun b o hb => by
          rw [upd_ne (ne_of_none hb hD)]
          exact s6 _ _ (s5 _ _ (s24 _ _ hb))
      · have ts : Ts H6 (upd H6 D (.lst (acc ++ [y]))) := Ts.put (s6 _ _ hacc5) (fun xs z => by cases z) (fun o u z => by cases z)
        rw [take_succ_of ha, List.filter_append, List.filter_cons_of_pos (by simp [hp]), List.filter_nil, List.map_append, List.map_cons, List.map_nil]
        exact dda_app (dda_ts ts _ _ (himm i) (dda_sm s6 _ _ hda5)) (.cons (dd_ts ts _ _ (him a hmem hp) dy) .nil)
  · have e : i = l.length := by omega
    subst e
    have hst := Y.stop H3 s3
    rw [List.length_map] at hst
    rw [List.take_length] at hda
    exact .inl ⟨hst, q D acc _ (s2.free hD) (s2.trans s3) hacc hda⟩
/-- one name, no test -/
theorem ev_lc1 {α : Type} {wi : TI} {j : Nat} {vs : List Nat} {l : List α} {gi : α → PyData} (f : α → PyData) (hw : WkD K wi σ H (l.map gi)) (hz : l.length ≤ 16000000) (him : ∀ a ∈ l, imm (f a) = true)
    (ht : ∀ a ∈ l, ∀ H' x, Same H H' → Dd K H' x (gi a) → EvD K te ((wipe σ vs).set j (some x)) H' (f a)) (hj2 : ∀ x, wipe ((wipe σ vs).set j (some x)) vs = wipe σ vs := by intro x; rfl) : EvL K (tLc wi (gName j) tYes te vs) σ H (l.map f) := by
  have := ev_lcG (te := te) (g := gName j) (tt := tYes) (vs := vs) (fun _ => true) f hw hz (fun d hd _ => him d hd) fun d hd H' x s dx => ⟨(wipe σ vs).set j (some x), fun Q q => q, hj2 x, fun H1 _ Q q => q H1 (.refl _), fun _ => ht d hd H' x s dx⟩
  rwa [List.filter_eq_self.mpr (fun _ _ => rfl)] at this
/-- one name, a test -/
theorem ev_lc1f {α : Type} {wi : TI} {j : Nat} {vs : List Nat} {tt : TT} {l : List α} {gi : α → PyData} (p : α → Bool) (f : α → PyData) (hw : WkD K wi σ H (l.map gi)) (hz : l.length ≤ 16000000) (him : ∀ a ∈ l, p a = true → imm (f a) = true)
    (htt : ∀ a ∈ l, ∀ H' x, Same H H' → Dd K H' x (gi a) → EvT tt ((wipe σ vs).set j (some x)) H' (p a))
    (ht : ∀ a ∈ l, ∀ H' x, Same H H' → Dd K H' x (gi a) → p a = true → EvD K te ((wipe σ vs).set j (some x)) H' (f a)) (hj2 : ∀ x, wipe ((wipe σ vs).set j (some x)) vs = wipe σ vs := by intro x; rfl) : EvL K (tLc wi (gName j) tt te vs) σ H ((l.filter p).map f) :=
  ev_lcG p f hw hz him fun d hd H' x s dx => ⟨(wipe σ vs).set j (some x), fun Q q => q, hj2 x, htt d hd H' x s dx, ht d hd H' x s dx⟩
/-- two names, a test -/
theorem ev_lc2f {α : Type} {wi : TI} {j k : Nat} {vs : List Nat} {tt : TT} {l : List α} {g1 g2 : α → PyData} (p : α → Bool) (f : α → PyData) (hw : WkD K wi σ H (l.map fun a => .tuple [g1 a, g2 a])) (hz : l.length ≤ 16000000) (him : ∀ a ∈ l, p a = true → imm (f a) = true)
    (htt : ∀ a ∈ l, ∀ H' x y, Same H H' → Dd K H' x (g1 a) → Dd K H' y (g2 a) → EvT tt (((wipe σ vs).set j (some x)).set k (some y)) H' (p a))
    (ht : ∀ a ∈ l, ∀ H' x y, Same H H' → Dd K H' x (g1 a) → Dd K H' y (g2 a) → p a = true → EvD K te (((wipe σ vs).set j (some x)).set k (some y)) H' (f a))
    (hj2 : ∀ x y, wipe (((wipe σ vs).set j (some x)).set k (some y)) vs = wipe σ vs := by intro x y; rfl) : EvL K (tLc wi (gTup K 2 (gCons (gName j) (gCons (gName k) gNil))) tt te vs) σ H ((l.filter p).map f) :=
  ev_lcG p f hw hz him fun d hd H' x s dx => by
    obtain ⟨a, xs, rfl, ha, hxs⟩ := dd_tup dx
    obtain ⟨x1, x2, rfl, h1, h2⟩ := dda2 hxs
    exact ⟨((wipe σ vs).set j (some x1)).set k (some x2), fun Q q => ⟨a, _, rfl, ha, rfl, x1, [x2], rfl, x2, [], rfl, rfl, q⟩, hj2 x1 x2, htt d hd H' x1 x2 s h1 h2, ht d hd H' x1 x2 s h1 h2⟩
theorem ev_lc2 {α : Type} {wi : TI} {j k : Nat} {vs : List Nat} {l : List α} {g1 g2 : α → PyData} (f : α → PyData) (hw : WkD K wi σ H (l.map fun a => .tuple [g1 a, g2 a])) (hz : l.length ≤ 16000000) (him : ∀ a ∈ l, imm (f a) = true)
    (ht : ∀ a ∈ l, ∀ H' x y, Same H H' → Dd K H' x (g1 a) → Dd K H' y (g2 a) → EvD K te (((wipe σ vs).set j (some x)).set k (some y)) H' (f a))
    (hj2 : ∀ x y, wipe (((wipe σ vs).set j (some x)).set k (some y)) vs = wipe σ vs := by intro x y; rfl) : EvL K (tLc wi (gTup K 2 (gCons (gName j) (gCons (gName k) gNil))) tYes te vs) σ H (l.map f) := by
  have := ev_lc2f (te := te) (tt := tYes) (j := j) (k := k) (vs := vs) (fun _ => true) f hw hz (fun d hd _ => him d hd) (fun a ha H' x y s dx dy H1 _ Q q => q H1 (.refl _)) (fun a ha H' x y s dx dy _ => ht a ha H' x y s dx dy) hj2
  rwa [List.filter_eq_self.mpr (fun _ _ => rfl)] at this
/-! ### statements -/
variable {D : Ends} {tu tw : TS} {g : TG}
theorem s_seq (h : tu { D with nx := tw D } σ H) : tSeq tu tw D σ H := h
theorem s_set {i : Nat} (h : EvD K te σ H d) (k : ∀ v H1, Same H H1 → Dd K H1 v d → D.nx (σ.set i (some v)) H1) : tAsg te (gName i) D σ H := h H (.refl _) _ k
theorem s_ret (h : EvD K te σ H d) (k : ∀ v H1, Same H H1 → Dd K H1 v d → D.rt v H1) : tRet te D σ H := h H (.refl _) _ k
theorem s_drop (h : EvD K te σ H d) (k : ∀ H1, Same H H1 → D.nx σ H1) : tDrop te D σ H := h H (.refl _) _ fun _ H1 s _ => k H1 s
theorem s_if {b : Bool} (h : EvT t σ H b) (k1 : b = true → ∀ H1, Same H H1 → tu D σ H1) (k2 : b = false → ∀ H1, Same H H1 → tw D σ H1) : tIfS t tu tw D σ H := h H (.refl _) _ fun H1 s => by
  cases b with
  | true => exact iteT (k1 rfl H1 s)
  | false => exact iteF (k2 rfl H1 s)
theorem s_ifT (h : EvT t σ H true) (k1 : ∀ H1, Same H H1 → tu D σ H1) : tIfS t tu tw D σ H := s_if h (fun _ => k1) fun e => by cases e
theorem s_ifF (h : EvT t σ H false) (k2 : ∀ H1, Same H H1 → tw D σ H1) : tIfS t tu tw D σ H := s_if h (fun e => by cases e) fun _ => k2
theorem s_retL {ds : List PyData} (h : EvL K te σ H ds) (k : ∀ p xs H1, H p = none → Same H H1 → H1 p = some (.lst xs) → DdA K H1 xs ds → D.rt (.ref p) H1) : tRet te D σ H := h H (.refl _) _ k
theorem s_setL {i : Nat} {ds : List PyData} (h : EvL K te σ H ds) (k : ∀ p xs H1, H p = none → Same H H1 → H1 p = some (.lst xs) → DdA K H1 xs ds → D.nx (σ.set i (some (.ref p))) H1) : tAsg te (gName i) D σ H := h H (.refl _) _ k
/-- a loop over a list that stands while I holds -/
theorem s_forL {α : Type} {l : List α} {gi : α → PyData} {tl : TE} (h : EvL K tl σ H (l.map gi)) (I : Addr → List V → Nat → St → Hp → Prop)
    (h0 : ∀ p xs H1, H p = none → Same H H1 → H1 p = some (.lst xs) → DdA K H1 xs (l.map gi) → I p xs 0 σ H1)
    (hp : ∀ p xs i σ' H', I p xs i σ' H' → H' p = some (.lst xs) ∧ DdA K H' xs (l.map gi))
    (hs : ∀ p xs i a σ' H' x, l[i]? = some a → I p xs i σ' H' → Dd K H' x (gi a) → g x σ' H' fun σ2 H2 => tu { D with nx := I p xs (i + 1), ct := I p xs (i + 1), bk := D.nx } σ2 H2)
    (hd : ∀ p xs σ' H', I p xs l.length σ' H' → D.nx σ' H') : tFor (iList K tl) g tu D σ H := h H (.refl _) _ fun p xs H1 hpn s1 hx hda => by
  have hl : xs.length = l.length := by rw [dda_len hda, List.length_map]
  refine ⟨p, rfl, ⟨xs, .of hx⟩, for_list (K := K) (a := p) (xs := xs) (I p xs) (h0 p xs H1 hpn s1 hx hda) (fun i σ' H' _ q => .of (hp p xs i σ' H' q).1) (fun i x σ' H' hi q => ?_) (fun σ' H' q => hd p xs σ' H' (hl ▸ q))⟩
  have hil : i < l.length := by
    have := (List.getElem?_eq_some_iff.mp hi).1
    omega
  have ha : l[i]? = some l[i] := List.getElem?_eq_getElem hil
  obtain ⟨v, e1, e2⟩ := dda_get (hp p xs i σ' H' q).2 (show (l.map gi)[i]? = some (gi l[i]) by rw [List.getElem?_map, ha]; rfl)
  rw [hi] at e1
  cases e1
  exact hs p xs i l[i] σ' H' x ha q e2
/-- a pair of names takes a pair -/
theorem g_pair {j k : Nat} {d1 d2 : PyData} {x : V} {Q : St → Hp → Prop} (h : Dd K H x (.tuple [d1, d2])) (q : ∀ x1 x2, Dd K H x1 d1 → Dd K H x2 d2 → Q ((σ.set j (some x1)).set k (some x2)) H) : gTup K 2 (gCons (gName j) (gCons (gName k) gNil)) x σ H Q := by
  obtain ⟨a, xs, rfl, ha, hxs⟩ := dd_tup h
  obtain ⟨x1, x2, rfl, h1, h2⟩ := dda2 hxs
  exact ⟨a, _, rfl, ha, rfl, x1, [x2], rfl, x2, [], rfl, rfl, q x1 x2 h1 h2⟩
theorem s_next (h : D.nx σ H) : tNext D σ H := h
end
end T
namespace T
open PySem PySem.Spec L2
theorem WkD.is {K : PySem.W.Frag} {wi : TI} {σ : L2.St} {H : Hp} {ds es : List PyData} (h : WkD K wi σ H ds) (e : ds = es) : WkD K wi σ H es := e ▸ h
end T
namespace T
open PySem PySem.Spec L2
section
variable {K : PySem.W.Frag} {σ : L2.St} {H H' : Hp} {te ta tb tc : TE} {d e f : PyData} {v : V} {D : Ends}
theorem s_asgPair {j k : Nat} {d1 d2 : PyData} (h : EvD K te σ H (.tuple [d1, d2])) (q : ∀ x1 x2 H1, Same H H1 → Dd K H1 x1 d1 → Dd K H1 x2 d2 → D.nx ((σ.set j (some x1)).set k (some x2)) H1) : tAsg te (gTup K 2 (gCons (gName j) (gCons (gName k) gNil))) D σ H :=
  h H (.refl _) _ fun v H1 s dv => g_pair dv fun x1 x2 e1 e2 => q x1 x2 H1 s e1 e2
theorem s_par {j k : Nat} (ha : EvD K ta σ H d) (hb : EvD K tb σ H e) (q : ∀ x1 x2 H1, Same H H1 → Dd K H1 x1 d → Dd K H1 x2 e → D.nx ((σ.set j (some x1)).set k (some x2)) H1) : tPar j k (tCons ta (tCons tb tNil)) D σ H :=
  ha H (.refl _) _ fun v H1 s dv => hb H1 s _ fun y H2 s2 dy => ⟨v, y, rfl, q v y H2 (s.trans s2) (dd_sm s2 _ _ dv) dy⟩
end
end T

namespace T
open PySem PySem.Spec L2
open C8 (Cal Mak Met pe_c pe_mk pe_mt pe_mt0)
open PyProof.Rows hiding St
section
variable {X : Cx}
/-! ### a stored attribute as a target -/
def gFld (K : PySem.W.Frag) (ta : TE) (f : Str) : TG := fun v σ H Q => ta σ H fun x H2 => ∃ a C dx fs, x = .ref a ∧ H2 a = some (.ins C dx fs) ∧ Cls K C ∧ NoAttr K C f ∧ fs.length < 1000 ∧ Q σ (upd H2 a (.ins C dx (putF f v fs)))
theorem pg_fld {o : Expr} {f : Str} {pos : Pos} {ta : TE} (ha : PE X o ta) : PG X (.Attribute o f pos) (gFld X.K ta f) := by
  refine ⟨fun pins s σ H v u Q I r h => ?_⟩
  refine PySem.W.kas_attr (thn (ha.run pins s σ H _ I h) fun ov s2 ⟨x, H2, I2, rx, a, C, dx, fs, ex, ea, c, n, l, q2⟩ => ?_)
  subst ex
  obtain rfl : ov = Value.ref a := rx
  exact setattr_ok I2 ea c n l r fun s3 I3 => ⟨σ, _, I3, q2⟩
def rIAddU : TIp := fun x y H Q => (rI0 (fun i j => .int (i + j)) x y H Q) ∨ (∃ i j, x = .str i ∧ y = .str j ∧ i.length + j.length ≤ sizeLine ∧ Q (.str (i ++ j)) H)
theorem uIAdd : PIp X .Add rIAddU := iop_add.or iop_add_str
theorem uInAdd : InOp X .Add rIAddU := iop_add.or iop_add_str
theorem uPgFld (K : PySem.W.Frag) {o : Expr} {f : Str} {pos : Pos} {ta : TE} (ha : PE X o ta) (h : X.K = K := by rfl) : PG X (.Attribute o f pos) (gFld K ta f) := by subst h; exact pg_fld ha
variable {k j : Nat} {C : Addr} {x : Str} {sp : Sp} {dvs : List V} {p pos : Pos}
theorem pe_mk0 (c : Mak X.prog X.w X.K X.mg X.base k x C sp dvs) (hr : Room j X.A) (hk : k + 1 ≤ j) (hg : Gl X x)
    (hdb : (x == ("__debug__" : Str)) = false := by decide) : PE X (.Call (.Name x p) [] [] pos) (tMake C sp dvs E0 tNil) := by
  obtain ⟨f, fd, ps, ds, M, F, hm, b, d⟩ := c.ex
  exact pe_make0 M F (hr.mono hk) hg hm b d pass0 hdb
end
/-! ### defs of the text by their facts -/
section
variable {P : Program} {w : World} {K : PySem.W.Frag} {mg : Str → Option Value} {base : Heap} {x m qual : Str} {pa : Arguments} {bd : List Stmt} {sc : Scope} {f C : Addr} {fd : FuncData} {N ps : List Str} {k : Nat} {sp : Sp}
theorem fn_ok0 (F : FunD K x qual pa bd sc [] [] f fd) (S : FnScope N ps sc) (len : ∀ vs H Q E, sp vs H Q E → vs.length = ps.length)
    (hb : ∀ (cdv : Value) (A : Around) (outer : List Env) (s : Shared) (H : Hp) (vs : List V) (Q : VK) (E : XK), Room k (A.deeper (envOfC qual sc s.heap.objs.size f cdv)) → sp vs H Q E →
      ∃ t, PSs (cxOf CX0 P w K mg base N qual sc f cdv A outer s H E).nox bd t ∧ t { nx := fun _ H' => Q .non H', rt := Q } (start N vs) H) : FnOk P w K mg base CX0 (k + 1) f fd ps sp :=
  F.ok S len fun cdv A outer s H vs Q E hr h => by
    obtain ⟨t, h1, h2⟩ := hb cdv A outer s H vs Q E hr h
    exact ⟨t, h1.nox, h2⟩
theorem cal_of (F : FunD K x x pa bd sc [] [] f fd) (g : mg x = some (.ref f)) (b : Binds K fd ps []) (S : FnScope N ps sc) (len : ∀ vs H Q E, sp vs H Q E → vs.length = ps.length)
    (hb : ∀ (cdv : Value) (A : Around) (outer : List Env) (s : Shared) (H : Hp) (vs : List V) (Q : VK) (E : XK), Room k (A.deeper (envOfC x sc s.heap.objs.size f cdv)) → sp vs H Q E →
      ∃ t, PSs (cxOf CX0 P w K mg base N x sc f cdv A outer s H E).nox bd t ∧ t { nx := fun _ H' => Q .non H', rt := Q } (start N vs) H) : Cal P w K mg base (k + 1) x sp [] :=
  ⟨f, fd, ps, [], fn_ok0 F S len hb, g, F.kp, b, .nil⟩
theorem met_of (c : Cls K C) (me : Meth K C m f) (F : FunD K m qual pa bd sc [] [] f fd) (b : Binds K fd ps []) (S : FnScope N ps sc) (len : ∀ vs H Q E, sp vs H Q E → vs.length = ps.length)
    (hb : ∀ (cdv : Value) (A : Around) (outer : List Env) (s : Shared) (H : Hp) (vs : List V) (Q : VK) (E : XK), Room k (A.deeper (envOfC qual sc s.heap.objs.size f cdv)) → sp vs H Q E →
      ∃ t, PSs (cxOf CX0 P w K mg base N qual sc f cdv A outer s H E).nox bd t ∧ t { nx := fun _ H' => Q .non H', rt := Q } (start N vs) H) : Met P w K mg base (k + 1) C m sp [] :=
  ⟨f, fd, ps, [], c, me, fn_ok0 F S len hb, b, .nil⟩
theorem mak_of (M : Mk K C f) (hm : mg x = some (.ref C)) (F : FunD K "__init__" qual pa bd sc [] [] f fd) (b : Binds K fd ps []) (S : FnScope N ps sc) (len : ∀ vs H Q E, sp vs H Q E → vs.length = ps.length)
    (hb : ∀ (cdv : Value) (A : Around) (outer : List Env) (s : Shared) (H : Hp) (vs : List V) (Q : VK) (E : XK), Room k (A.deeper (envOfC qual sc s.heap.objs.size f cdv)) → sp vs H Q E →
      ∃ t, PSs (cxOf CX0 P w K mg base N qual sc f cdv A outer s H E).nox bd t ∧ t { nx := fun _ H' => Q .non H', rt := Q } (start N vs) H) : Mak P w K mg base (k + 1) x C sp [] :=
  ⟨f, fd, ps, [], M, fn_ok0 F S len hb, hm, b, .nil⟩
theorem spD_len {K : PySem.W.Frag} {R : List PyData → PyData → Prop} {n : Nat} (h : ∀ ds d, R ds d → ds.length = n) : ∀ (vs : List V) (H : Hp) (Q : VK) (E : XK), spD K R vs H Q E → vs.length = n := fun vs H Q E ⟨ds, d, r, a, _⟩ => (dda_len a).trans (h ds d r)
end
end T
namespace T
open PySem PySem.Spec L2
section
variable {K : PySem.W.Frag} {σ : L2.St} {H H' : Hp} {te ta tb tc : TE} {d e f : PyData} {v : V} {D : Ends}
theorem s_augI {i : Nat} {a b : Int} (hi : σ[i]? = some (some (.int a))) (h : EvD K te σ H (.int b)) (k : ∀ H1, Same H H1 → D.nx (σ.set i (some (.int (a + b)))) H1) : tAug i te rIAddU D σ H :=
  ⟨_, hi, h H (.refl _) _ fun y H1 s dy => .inl ⟨a, b, rfl, dd_int dy, k H1 s⟩⟩
theorem s_augS {i : Nat} {a b : List Nat} (hi : σ[i]? = some (some (.str (tx a)))) (h : EvD K te σ H (.str (tx b))) (hl : a.length + b.length ≤ sizeLine) (k : ∀ H1, Same H H1 → D.nx (σ.set i (some (.str (tx (a ++ b))))) H1) : tAug i te rIAddU D σ H :=
  ⟨_, hi, h H (.refl _) _ fun y H1 s dy => .inr ⟨tx a, tx b, rfl, dd_str dy, by rw [tx_len, tx_len]; exact hl, by rw [tx_app]; exact k H1 s⟩⟩
end
end T
namespace T
open PySem PySem.Spec L2
section
variable {K : PySem.W.Frag} {σ : L2.St} {H H' : Hp} {te ta tb tc : TE} {d e f : PyData} {v : V} {D : Ends} {tu : TS}
/-- for name in range(n - 1, -1, -1) -/
theorem s_forDown {n : Nat} {ar : TA} {j : Nat} (h : EvA K ar σ H [.int ((n : Nat) - 1), .int (-1), .int (-1)]) (hn : n ≤ 1000000) (Pv : Nat → L2.St → Hp → Prop) (h0 : ∀ H1, Same H H1 → Pv 0 σ H1)
    (hs : ∀ i σ' H', i < n → Pv i σ' H' → tu { D with nx := Pv (i + 1), ct := Pv (i + 1), bk := D.nx } (σ'.set j (some (.int ((n - 1 - i : Nat) : Int)))) H') (hd : ∀ σ' H', Pv n σ' H' → D.nx σ' H') : tFor (iRng3 ar) (gName j) tu D σ H :=
  h H (.refl _) _ fun vs H1 s dvs => by
    obtain ⟨x, y, z, rfl, d1, d2, d3⟩ := dda3 dvs
    refine ⟨(n : Nat) - 1, -1, -1, ((n : Int) - 1 - (-1)).toNat, by rw [dd_int d1, dd_int d2, dd_int d3], RgC.neg (by omega) (by omega) (by decide) (by decide), ?_⟩
    have e : ((n : Int) - 1 - (-1)).toNat = n := by omega
    rw [e]
    refine for_rangeC (lo := (n : Int) - 1) (c := -1) (n := n) Pv (h0 H1 s) (fun i σ' H' hi p => ?_) hd
    show tu _ (σ'.set j (some (.int ((n : Int) - 1 + (i : Nat) * (-1))))) H'
    rw [show (n : Int) - 1 + (i : Nat) * (-1) = ((n - 1 - i : Nat) : Int) by omega]
    exact hs i σ' H' hi p
end
end T
namespace T
open PySem PySem.Spec L2
section
variable {K : PySem.W.Frag} {σ : L2.St} {H H' : Hp} {tc : TT} {D : Ends} {tu : TS}
theorem s_while (I : Nat → L2.St → Hp → Prop) {m : Nat} (h0 : I m σ H)
    (hs : ∀ m σ' H', I m σ' H' → ∃ b, EvT tc σ' H' b ∧ (b = true → ∀ H1, Same H' H1 → tu { D with nx := fun σ2 H2 => ∃ m', m' < m ∧ I m' σ2 H2, ct := fun σ2 H2 => ∃ m', m' < m ∧ I m' σ2 H2, bk := D.nx } σ' H1) ∧ (b = false → ∀ H1, Same H' H1 → D.nx σ' H1)) : tWhile tc tu D σ H :=
  ⟨I, ⟨m, h0⟩, fun m σ' H' h => by
    obtain ⟨b, h1, h2, h3⟩ := hs m σ' H' h
    refine h1 H' (.refl _) _ fun H1 s1 => ?_
    cases b with
    | true => exact iteT ⟨fun σ2 H2 => ∃ m', m' < m ∧ I m' σ2 H2, fun _ _ h => h, h2 rfl H1 s1⟩
    | false => exact iteF (h3 rfl H1 s1)⟩
end
end T

namespace T
open PySem PySem.Spec L2
open PyProof.Rows hiding St
section
variable {K : PySem.W.Frag} {σ : St} {H H' : Hp} {te ta tb tc : TE} {t u : TT} {d e f : PyData} {v : V}
theorem kit_same (K : PySem.W.Frag) (T : String) : PySem.W.kitOne K (.type T) (.type T) = some true := by
  unfold PySem.W.kitOne
  simp
theorem ev_isStr {x : Str} (h : EvD K te σ H (.str x)) : EvD K (tCB (rIsi K) (tCons te (tCons (tC (.ty "str")) tNil))) σ H (.bool true) := fun H1 s Q q => h H1 s _ fun v H2 s2 dv =>
  ⟨v, .ty "str", .type "str", .type "str", true, rfl, .ty "str", by rw [dd_str dv]; exact .base (.str x), kit_same K _, q _ H2 s2 (.bl _)⟩
theorem tyx_tup {a : Addr} {xs : List V} (h : SqT K H a xs) : TyX K H (.ref a) (.type "tuple") := by
  rcases h with (h | ⟨o, h⟩) | ⟨o, its, n, h, hc, _⟩
  · exact .base (.tup h)
  · exact .fTuple h
  · exact .kTuple h hc
theorem ev_isTup {ds : List PyData} (h : EvD K te σ H (.tuple ds)) : EvD K (tCB (rIsi K) (tCons te (tCons (tC (.ty "tuple")) tNil))) σ H (.bool true) := fun H1 s Q q => h H1 s _ fun v H2 s2 dv => by
  obtain ⟨p, xs, rfl, hp, hx⟩ := dd_tup dv
  exact ⟨_, .ty "tuple", .type "tuple", .type "tuple", true, rfl, .ty "tuple", tyx_tup hp, kit_same K _, q _ H2 s2 (.bl _)⟩
/-- {sign: True for sign in text}, its length, no sign twice -/
theorem ev_dcLen {j : Nat} {vs : List Nat} {a : List Nat} (h : EvD K te σ H (.str (tx a))) (nd : a.Nodup) (hz : a.length ≤ 1000) (hj : ∀ x, wipe ((wipe σ vs).set j (some x)) vs = wipe σ vs := by intro x; rfl) (hj2 : ∀ x, ((wipe σ vs).set j (some x))[j]? = some (some x) := by intro x; rfl) :
    EvD K (tCB (rLenU K) (tCons (tDc (iStr te) (gName j) tYes (tVar j) (tC (.bl true)) vs) tNil)) σ H (.int (a.length : Nat)) := fun H1 s Q q => h H1 s _ fun v H2 s2 dv => ⟨tx a, dd_str dv, fun D hD => by
  have Y := yl_str (K := K) a (fun _ => True)
  refine ⟨fun i m H => m = a.length - i ∧ i ≤ a.length ∧ Same H2 H ∧ H D = some (.dK ((a.take i).map fun c => (Sum.inr (tx [c]), V.bl true))), ⟨a.length, by simp, Nat.zero_le _, sm_new hD, upd_same⟩, ?_⟩
  rintro i m H3 ⟨rfl, hi, s3, hd⟩
  by_cases hlt : i < a.length
  · have hc : a[i]? = some a[i] := List.getElem?_eq_getElem hlt
    have hg : (a.map sgn)[i]? = some (sgn a[i]) := by rw [List.getElem?_map, hc]; rfl
    refine .inr ⟨Y.go i _ H3 hg trivial, fun H' => Same H2 H' ∧ H' D = some (.dK ((a.take (i + 1)).map fun c => (Sum.inr (tx [c]), V.bl true))), fun H' ⟨a1, b1⟩ => ⟨a.length - (i + 1), by omega, rfl, hlt, a1, b1⟩, fun x H4 hy => ?_⟩
    obtain ⟨s4, dx⟩ := Y.yld i _ H3 x H4 hg trivial hy
    have ex : x = .str (tx [a[i]]) := dd_str dx
    subst ex
    refine ⟨hj _, ?_⟩
    refine ⟨_, hj2 _, ?_⟩
    refine ⟨_, Sum.inr (tx [a[i]]), rfl, s4 _ _ hd, ?_, ?_, ?_⟩
    · rw [List.length_map, List.length_take, sizeLine_eq]
      omega
    · exact fun b o hb => by
        rw [upd_ne (ne_of_none hb hD)]
        exact s4 _ _ (s3 _ _ hb)
    · rw [upd_same]
      have hv : valV ((a.take i).map fun c => ((Sum.inr (tx [c]) : Key), V.bl true)) (Sum.inr (tx [a[i]])) = none := by
        unfold valV
        rw [Option.map_eq_none_iff, List.find?_eq_none]
        intro p hp
        obtain ⟨c, hc1, rfl⟩ := List.mem_map.mp hp
        simp only [decide_eq_true_eq]
        intro e
        have e1 : c = a[i] := by
          have := tx_inj (Sum.inr.inj e)
          simpa using this
        obtain ⟨k, hk⟩ := List.getElem?_of_mem hc1
        rw [List.getElem?_take] at hk
        split at hk
        · rename_i hki
          have h1 : a[k]? = a[i]? := by rw [hk, hc, e1]
          have hkl : k < a.length := by omega
          have := (List.getElem?_inj hkl nd).mp h1
          omega
        · cases hk
      rw [putK_new _ hv, take_succ_of hc, List.map_append]
      rfl
  · have e : i = a.length := by omega
    subst e
    refine .inl ⟨?_, ?_⟩
    · have := Y.stop H3 trivial
      rwa [List.length_map] at this
    · rw [List.take_length] at hd
      refine .inr ⟨D, _, rfl, hd, ?_⟩
      rw [List.length_map]
      exact q _ _ (s2.trans s3) (.int _)⟩
/-- 1 <= a <= b -/
theorem et_le_le {i j k : Int} (ha : EvD K ta σ H (.int i)) (hb : EvD K tb σ H (.int j)) (hc : EvD K tc σ H (.int k)) :
    EvT (tTest (tChain (rI0 fun i j => .bl (decide (i ≤ j))) (rI0 fun i j => .bl (decide (i ≤ j))) ta tb tc)) σ H (decide (i ≤ j) && decide (j ≤ k)) := fun H1 s Q q => ha H1 s _ fun x H2 s2 dx => hb H2 (s.trans s2) _ fun y H3 s3 dy => by
  refine ⟨i, j, dd_int dx, dd_int dy, decide (i ≤ j), rfl, ?_⟩
  cases e : decide (i ≤ j) with
  | false =>
    rw [if_neg Bool.false_ne_true]
    rw [e] at q
    exact ⟨false, rfl, q _ (s2.trans s3)⟩
  | true =>
    rw [if_pos rfl]
    rw [e] at q
    exact hc H3 ((s.trans s2).trans s3) _ fun z H4 s4 dz => ⟨j, k, dd_int dy, dd_int dz, decide (j ≤ k), rfl, by
      have := q _ ((s2.trans s3).trans s4)
      rwa [Bool.true_and] at this⟩
/-- c in text, one sign -/
theorem ev_inS {c : Nat} {a : List Nat} (ha : EvD K ta σ H (.str (tx [c]))) (hb : EvD K tb σ H (.str (tx a))) : EvD K (tOp (rInU K false) ta tb) σ H (.bool (decide (c ∈ a))) := ev_op ha hb fun H1 _ x y dx dy Q q => by
  refine .inr ⟨c, tx a, dd_str dx, dd_str dy, ?_⟩
  rw [tx_cps]
  exact q _ H1 (.refl _) (.bl _)
theorem ev_ninS {c : Nat} {a : List Nat} (ha : EvD K ta σ H (.str (tx [c]))) (hb : EvD K tb σ H (.str (tx a))) : EvD K (tOp (rInU K true) ta tb) σ H (.bool (!decide (c ∈ a))) := ev_op ha hb fun H1 _ x y dx dy Q q => by
  refine .inr ⟨c, tx a, dd_str dx, dd_str dy, ?_⟩
  rw [tx_cps]
  exact q _ H1 (.refl _) (.bl _)
/-- text not in (two texts) -/
theorem ev_ninT2 {a b c : List Nat} (ha : EvD K ta σ H (.str (tx a))) (hb : EvD K tb σ H (.tuple [.str (tx b), .str (tx c)])) : EvD K (tOp (rInU K true) ta tb) σ H (.bool (!(decide (a = b) || decide (a = c)))) := ev_op ha hb fun H1 _ x y dx dy Q q => by
  obtain ⟨p, xs, rfl, hp, hx⟩ := dd_tup dy
  obtain ⟨x1, x2, rfl, h1, h2⟩ := dda2 hx
  have e1 := dd_str h1
  have e2 := dd_str h2
  subst e1 e2
  rw [dd_str dx]
  refine .inl ⟨p, _, rfl, .inr hp, rfl, rfl, ?_⟩
  have e : inV (.str (tx a)) [.str (tx b), .str (tx c)] = (decide (a = b) || decide (a = c)) := by
    show (eqV (.str (tx b)) (.str (tx a)) || (eqV (.str (tx c)) (.str (tx a)) || false)) = _
    show ((tx b == tx a) || ((tx c == tx a) || false)) = _
    rw [tx_beq, tx_beq, Bool.or_false]
    rw [show decide (b = a) = decide (a = b) from decide_eq_decide.mpr eq_comm, show decide (c = a) = decide (a = c) from decide_eq_decide.mpr eq_comm]
  rw [e]
  exact q _ H1 (.refl _) (.bl _)
end
end T

namespace T
open PySem PySem.Spec L2
open PyProof.Rows hiding St
/-! ### all stands but what is at p, a dict -/
def Px (p : Addr) (H H' : Hp) : Prop := ∀ a o, a ≠ p → H a = some o → H' a = some o
theorem Px.refl (p : Addr) (H : Hp) : Px p H H := fun _ _ _ h => h
theorem Px.trans {p : Addr} {H H1 H2 : Hp} (a : Px p H H1) (b : Px p H1 H2) : Px p H H2 := fun x o n h => b x o n (a x o n h)
theorem Px.of {p : Addr} {H H' : Hp} (s : Same H H') : Px p H H' := fun x o _ h => s x o h
theorem Px.put {p : Addr} {H : Hp} {o : HO} : Px p H (upd H p o) := fun x u n h => by rw [upd_ne n]; exact h
theorem Px.new {p : Addr} {H H1 H' : Hp} (s : Same H H1) (hp : H p = none) (b : Px p H1 H') : Same H H' := fun a o h => b a o (ne_of_none h hp) (s a o h)
def IsK (H : Hp) (p : Addr) : Prop := ∃ kvs, H p = some (.dK kvs)
theorem px_rd {p a : Addr} {H H' : Hp} {u : HO} (k : IsK H p) (e : Px p H H') (n1 : ∀ kvs, HO.dK kvs ≠ u) (n2 : ∀ o kvs, HO.dK kvs ≠ .frz o u) (h : Rd H a u) : Rd H' a u := by
  obtain ⟨kvs, hk⟩ := k
  rcases h with h | ⟨o, h⟩
  · exact .inl (e a _ (fun z => n1 kvs (Option.some.inj (by rw [← hk, ← z, h]))) h)
  · exact .inr ⟨o, e a _ (fun z => n2 o kvs (Option.some.inj (by rw [← hk, ← z, h]))) h⟩
mutual
theorem dd_px {K : PySem.W.Frag} {H H' : Hp} {p : Addr} (k : IsK H p) (e : Px p H H') : ∀ (d : PyData) (v : V), Dd K H v d → Dd K H' v d
  | .none, _, h => by cases h; exact .non
  | .bool b, _, h => by cases h; exact .bl b
  | .int i, _, h => by cases h; exact .int i
  | .str x, _, h => by cases h; exact .str x
  | .list ds, _, h => by
    cases h with
    | lst hs ha =>
      obtain ⟨kvs, hk⟩ := k
      exact .lst (e _ _ (fun z => by rw [z, hk] at hs; cases hs) hs) (dda_px ⟨kvs, hk⟩ e ds _ ha)
  | .tuple ds, _, h => by
    cases h with
    | tup hs ha =>
      refine .tup ?_ (dda_px k e ds _ ha)
      rcases hs with hs | hs
      · exact .inl (px_rd k e (fun _ z => by cases z) (fun _ _ z => by cases z) hs)
      · exact .inr hs
  | .dict _, _, h => by cases h
theorem dda_px {K : PySem.W.Frag} {H H' : Hp} {p : Addr} (k : IsK H p) (e : Px p H H') : ∀ (ds : List PyData) (vs : List V), DdA K H vs ds → DdA K H' vs ds
  | [], _, h => by cases h; exact .nil
  | d :: ds, _, h => by
    cases h with
    | cons h1 h2 => exact .cons (dd_px k e d _ h1) (dda_px k e ds _ h2)
end
/-! ### the pen -/
def penK (c : Addr) (a d n f : Nat) : List (Key × V) := [(.inr "cells", .ref c), (.inr "at", .int (a : Nat)), (.inr "digits", .int (d : Nat)), (.inr "count", .int (n : Nat)), (.inr "fold", .int (f : Nat))]
structure PenAt (H : Hp) (p c : Addr) (n : Nat) : Prop where
  ex : ∃ (ns : List Int) (a d m f : Nat), H p = some (.dK (penK c a d m f)) ∧ H c = some (.lst (ns.map V.int)) ∧ m ≤ n ∧ f < 2147483648
theorem PenAt.isK {H : Hp} {p c : Addr} {n : Nat} (h : PenAt H p c n) : IsK H p := let ⟨_, _, _, _, _, e, _⟩ := h.ex; ⟨_, e⟩
theorem PenAt.same {H H' : Hp} {p c : Addr} {n : Nat} (h : PenAt H p c n) (s : Same H H') : PenAt H' p c n := let ⟨ns, a, d, m, f, e1, e2, r⟩ := h.ex; ⟨ns, a, d, m, f, s _ _ e1, s _ _ e2, r⟩
theorem PenAt.le {H : Hp} {p c : Addr} {n m : Nat} (h : PenAt H p c n) (l : n ≤ m) : PenAt H p c m := let ⟨ns, a, d, k, f, e1, e2, r, r2⟩ := h.ex; ⟨ns, a, d, k, f, e1, e2, Nat.le_trans r l, r2⟩
theorem PenAt.put {H : Hp} {p c q : Addr} {n : Nat} {o : HO} (h : PenAt H p c n) (hq : H q = none) : PenAt (upd H q o) p c n := h.same (sm_new hq)
theorem pk_cells {c : Addr} {a d n f : Nat} : valV (penK c a d n f) (.inr "cells") = some (.ref c) := by rfl
theorem pk_at {c : Addr} {a d n f : Nat} : valV (penK c a d n f) (.inr "at") = some (.int (a : Nat)) := by rfl
theorem pk_digits {c : Addr} {a d n f : Nat} : valV (penK c a d n f) (.inr "digits") = some (.int (d : Nat)) := by rfl
theorem pk_count {c : Addr} {a d n f : Nat} : valV (penK c a d n f) (.inr "count") = some (.int (n : Nat)) := by rfl
theorem pk_fold {c : Addr} {a d n f : Nat} : valV (penK c a d n f) (.inr "fold") = some (.int (f : Nat)) := by rfl
theorem pp_at {c : Addr} {a d n f b : Nat} : putK (penK c a d n f) (.inr "at") (.int (b : Nat)) = penK c b d n f := by rfl
theorem pp_digits {c : Addr} {a d n f b : Nat} : putK (penK c a d n f) (.inr "digits") (.int (b : Nat)) = penK c a b n f := by rfl
theorem pp_count {c : Addr} {a d n f b : Nat} : putK (penK c a d n f) (.inr "count") (.int (b : Nat)) = penK c a d b f := by rfl
theorem pp_fold {c : Addr} {a d n f b : Nat} : putK (penK c a d n f) (.inr "fold") (.int (b : Nat)) = penK c a d n b := by rfl
/-! ### expressions that draw -/
/-- at most m draws; the data are as R says -/
def EvP (K : PySem.W.Frag) (p c : Addr) (m : Nat) (te : TE) (σ : St) (H : Hp) (R : PyData → Prop) : Prop := ∀ H1 n, Px p H H1 → PenAt H1 p c n → n + m ≤ 100000 → ∀ Q : VK, (∀ v H2 d, Px p H1 H2 → PenAt H2 p c (n + m) → R d → Dd K H2 v d → Q v H2) → te σ H1 Q
def Ddp (K : PySem.W.Frag) (p : Addr) (H : Hp) (v : V) (d : PyData) : Prop := ∀ H1, Px p H H1 → Dd K H1 v d
section
variable {K : PySem.W.Frag} {p : Addr} {m n m' : Nat} {σ : St} {H H' : Hp} {te ta tb : TE} {R R' RA RB : PyData → Prop} {c : Addr} {d : PyData} {v : V}
theorem Ddp.of (k : IsK H p) (h : Dd K H v d) : Ddp K p H v d := fun _ e => dd_px k e _ _ h
theorem Ddp.px (h : Ddp K p H v d) (e : Px p H H') : Ddp K p H' v d := fun _ e' => h _ (e.trans e')
theorem Ddp.at (h : Ddp K p H v d) : Dd K H v d := h _ (.refl _ _)
theorem EvP.px (h : EvP K p c m te σ H R) (e : Px p H H') : EvP K p c m te σ H' R := fun H1 n a b c Q q => h H1 n (e.trans a) b c Q q
theorem EvP.imp (h : EvP K p c m te σ H R) (f : ∀ d, R d → R' d) : EvP K p c m te σ H R' := fun H1 n a b c Q q => h H1 n a b c Q fun v H2 d a b r => q v H2 d a b (f d r)
theorem EvP.le (h : EvP K p c m te σ H R) (l : m ≤ m') : EvP K p c m' te σ H R := fun H1 n a b c Q q => h H1 n a b (by omega) Q fun v H2 d a b r => q v H2 d a (b.le (by omega)) r
theorem evp_of (h : ∀ H1, Px p H H1 → IsK H1 p → EvD K te σ H1 d) : EvP K p c 0 te σ H (· = d) := fun H1 n a b c Q q => h H1 a b.isK H1 (.refl _) Q fun v H2 s dv => q v H2 d (.of s) (b.same s) rfl dv
theorem evp_op {r : R2} (ha : EvP K p c m ta σ H RA) (hb : EvP K p c m' tb σ H RB)
    (hr : ∀ H1 d e, Px p H H1 → IsK H1 p → RA d → RB e → ∀ x y, Dd K H1 x d → Dd K H1 y e → ∀ Q : VK, (∀ v H2 f, Same H1 H2 → R f → Dd K H2 v f → Q v H2) → r x y H1 Q) : EvP K p c (m + m') (tOp r ta tb) σ H R := fun H1 n a b c Q q =>
  ha H1 n a b (by omega) _ fun x H2 d s2 b2 r1 dx => hb H2 (n + m) (a.trans s2) b2 (by omega) _ fun y H3 e s3 b3 r2 dy =>
    hr H3 d e ((a.trans s2).trans s3) b3.isK r1 r2 x y (dd_px b2.isK s3 _ _ dx) dy Q fun v H4 f s4 rf dv => q v H4 f ((s2.trans s3).trans (.of s4)) (by rw [← Nat.add_assoc]; exact b3.same s4) rf dv
/-- 1 + a draw -/
theorem evp_add {A B : Nat → Prop} (ha : EvP K p c m ta σ H fun d => ∃ i : Nat, A i ∧ d = .int (i : Nat)) (hb : EvP K p c m' tb σ H fun d => ∃ i : Nat, B i ∧ d = .int (i : Nat)) :
    EvP K p c (m + m') (tOp (rAddU K) ta tb) σ H fun d => ∃ i j : Nat, A i ∧ B j ∧ d = .int ((i + j : Nat) : Int) :=
  evp_op ha hb fun H1 d e _ _ ⟨i, hi, e1⟩ ⟨j, hj, e2⟩ x y dx dy Q q => by
    subst e1 e2
    exact .inl ⟨i, j, dd_int dx, dd_int dy, q _ H1 _ (.refl _) ⟨i, j, hi, hj, rfl⟩ (by rw [show ((i + j : Nat) : Int) = (i : Int) + (j : Int) by omega]; exact .int _)⟩
theorem evp_addS {A B : List Nat → Prop} (ha : EvP K p c m ta σ H fun d => ∃ i, A i ∧ d = .str (tx i)) (hb : EvP K p c m' tb σ H fun d => ∃ i, B i ∧ d = .str (tx i)) (hz : ∀ a b, A a → B b → a.length + b.length ≤ sizeLine) :
    EvP K p c (m + m') (tOp (rAddU K) ta tb) σ H fun d => ∃ i j, A i ∧ B j ∧ d = .str (tx (i ++ j)) :=
  evp_op ha hb fun H1 d e _ _ ⟨i, hi, e1⟩ ⟨j, hj, e2⟩ x y dx dy Q q => by
    subst e1 e2
    exact .inr (.inl ⟨tx i, tx j, dd_str dx, dd_str dy, by rw [tx_len, tx_len]; exact hz i j hi hj, by rw [tx_app]; exact q _ H1 _ (.refl _) ⟨i, j, hi, hj, rfl⟩ (.str _)⟩)
/-- a draw that is tested -/
theorem s_ifP {D : Ends} {tu tw : TS} {k : Int} (hb : PenAt H p c n) (hz : n + m ≤ 100000) (ha : EvP K p c m ta σ H fun d => ∃ i : Int, d = .int i) (h1 : ∀ H', Px p H H' → PenAt H' p c (n + m) → tu D σ H') (h2 : ∀ H', Px p H H' → PenAt H' p c (n + m) → tw D σ H') :
    tIfS (tTest (tOp (rEqU K) ta (tC (.int k)))) tu tw D σ H := ha H n (.refl _ _) hb hz _ fun x H1 d s1 b1 ⟨i, e⟩ dx => by
  subst e
  have ex := dd_int dx
  subst ex
  show rEqU K (.int i) (.int k) H1 _
  refine .inl ⟨rfl, ?_⟩
  refine ⟨_, rfl, ?_⟩
  cases decide (V.int i = V.int k) with
  | true => exact iteT (h1 _ s1 b1)
  | false => exact iteF (h2 _ s1 b1)
theorem s_setP {D : Ends} {i : Nat} (hb : PenAt H p c n) (hz : n + m ≤ 100000) (h : EvP K p c m te σ H R) (k : ∀ v H1 d, Px p H H1 → PenAt H1 p c (n + m) → R d → Dd K H1 v d → D.nx (σ.set i (some v)) H1) : tAsg te (gName i) D σ H := h H n (.refl _ _) hb hz _ k
theorem s_retP {D : Ends} (hb : PenAt H p c n) (hz : n + m ≤ 100000) (h : EvP K p c m te σ H R) (k : ∀ v H1 d, Px p H H1 → PenAt H1 p c (n + m) → R d → Dd K H1 v d → D.rt v H1) : tRet te D σ H := h H n (.refl _ _) hb hz _ k
/-- ''.join([draw .. for name in range(..)]) -/
theorem evp_joinLc {j M : Nat} {vs : List Nat} {tr tel : TE} {G B : Nat → Prop} {x0 : Str} (hx0 : x0 = tx [])
    (hr : EvP K p c m tr σ H fun d => ∃ r : Nat, B r ∧ d = .int (r : Nat)) (hBM : ∀ r, B r → r ≤ M) (hM : M ≤ 1000)
    (he : ∀ x H', Px p H H' → EvP K p c 1 tel ((wipe σ vs).set j (some x)) H' fun d => ∃ z, G z ∧ d = .str (tx [z]))
    (hj : ∀ x, wipe ((wipe σ vs).set j (some x)) vs = wipe σ vs := by intro x; rfl) (hjoin : ∀ t : List Nat, Txt.join (tx []) (t.map fun c => tx [c]) = tx t) :
    EvP K p c (m + M) (tM1 (rJoinU K) (tC (.str x0)) (tLc (iRng1 (tCons tr tNil)) (gName j) tYes tel vs)) σ H fun d => ∃ t : List Nat, B t.length ∧ (∀ c ∈ t, G c) ∧ d = .str (tx t) := fun H1 n a b hz Q q => by
  subst hx0
  refine ⟨⟨_, rfl⟩, hr H1 n a b (by omega) _ fun v H2 d s2 b2 ⟨r, hBr, ed⟩ dv => ?_⟩
  have hrM := hBM r hBr
  subst ed
  have ev := dd_int dv
  subst ev
  refine ⟨r, rfl, by omega, by omega, fun D hD => ?_⟩
  have hpD : p ≠ D := by
    obtain ⟨kvs, hk⟩ := b2.isK
    exact fun z => by rw [z, hD] at hk; cases hk
  have hcD : c ≠ D := by
    obtain ⟨ns, a', d', m', f', e1, e2, r2⟩ := b2.ex
    exact fun z => by rw [z, hD] at e2; cases e2
  have er : ((r : Nat) : Int).toNat = r := by simp
  rw [er]
  refine ⟨fun i mm H3 => mm = r - i ∧ i ≤ r ∧ Px p H1 H3 ∧ PenAt H3 p c (n + m + i) ∧ ∃ t : List Nat, t.length = i ∧ (∀ c ∈ t, G c) ∧ H3 D = some (.lst (t.map fun c => V.str (tx [c]))), ⟨r, by simp, Nat.zero_le _, s2.trans (.of (sm_new hD)), b2.put hD, [], rfl, fun _ z => (by cases z), upd_same⟩, ?_⟩
  rintro i mm H3 ⟨rfl, hi, s3, b3, t, ht, hG, hacc⟩
  by_cases hlt : i < r
  · refine .inr ⟨hlt, fun H' => Px p H1 H' ∧ PenAt H' p c (n + m + (i + 1)) ∧ ∃ t : List Nat, t.length = i + 1 ∧ (∀ c ∈ t, G c) ∧ H' D = some (.lst (t.map fun c => V.str (tx [c]))), fun H' h => ⟨r - (i + 1), by omega, rfl, hlt, h⟩, fun x H4 hy => ?_⟩
    obtain ⟨rfl, rfl⟩ := hy
    refine ⟨hj _, ?_⟩
    unfold tYes
    refine iteT ?_
    refine he _ H4 (a.trans s3) H4 (n + m + i) (.refl _ _) b3 (by omega) _ fun y H5 dd s5 b5 ⟨z, hz5, e5⟩ dy => ?_
    subst e5
    have ey := dd_str dy
    subst ey
    have hacc5 := s5 D _ (fun z => hpD z.symm) hacc
    refine ⟨_, hacc5, by rw [List.length_map, sizeLine_eq]; omega, ?_, ?_, t ++ [z], by rw [List.length_append, ht]; rfl, ?_, by rw [List.map_append]; exact upd_same⟩
    · refine fun b o nb hb => ?_
      have hbD : b ≠ D := fun z => by
        have h0 := s2 b o nb hb
        rw [z, hD] at h0
        cases h0
      rw [upd_ne hbD]
      exact s5 b o nb (s3 b o nb hb)
    · obtain ⟨ns, a', d', m', f', e1, e2, r2⟩ := b5.ex
      refine ⟨ns, a', d', m', f', by rw [upd_ne hpD]; exact e1, ?_, r2⟩
      rw [upd_ne hcD]
      exact e2
    · intro c0 h0
      rcases List.mem_append.mp h0 with h | h
      · exact hG _ h
      · rw [List.mem_singleton.mp h]
        exact hz5
  · have e : i = r := by omega
    subst e
    refine .inl ⟨Nat.le_refl _, ?_⟩
    refine ⟨tx [], D, t.map fun c => tx [c], rfl, rfl, .inl (.of (by rw [List.map_map]; exact hacc)), ?_, ?_⟩
    · have e1 : (t.map fun c => tx [c]).map (fun (x : Str) => x.length) = t.map fun _ => 1 := by
        rw [List.map_map]
        exact List.map_congr_left fun c _ => tx_len [c]
      rw [e1, List.map_const', List.sum_replicate_nat, List.length_map, tx_len]
      simp
      omega
    · rw [hjoin]
      refine q _ H3 _ s3 (b3.le (by omega)) ⟨t, by rw [ht]; exact hBr, hG, rfl⟩ (.str _)
end
end T
namespace T
open PySem PySem.Spec L2
section
variable {K : PySem.W.Frag} {p c : Addr} {m n : Nat} {σ : L2.St} {H H' : Hp} {te ta tb : TE} {d : PyData} {v : V} {D : Ends} {tu tw : TS}
theorem sm_l {a : Addr} {xs : List V} (e : Same H H') (h : SqL K H a xs) : SqL K H' a xs := by
  rcases h with h | h
  · exact .inl (sm_rd e h)
  · exact .inr h
theorem fmod_nat (x : Int) {k : Nat} (hk : 0 < k) : ∃ r : Nat, r < k ∧ x.fmod (k : Nat) = (r : Nat) := by
  have h1 : 0 ≤ x.fmod (k : Nat) := Int.fmod_nonneg_of_pos x (by omega)
  have h2 : x.fmod (k : Nat) < (k : Nat) := Int.fmod_lt_of_pos x (by omega)
  exact ⟨(x.fmod (k : Nat)).toNat, by omega, by omega⟩
/-- d['key'] at hand -/
theorem ev_pget {i : Nat} {k : Str} {kvs : List (Key × V)} (hi : σ[i]? = some (some (.ref p))) (e : H p = some (.dK kvs)) (hv : valV kvs (.inr k) = some v) (hd : Dd K H v d) : EvD K (tDGet (tVar i) (tC (.str k))) σ H d := fun H1 s Q q =>
  ⟨_, hi, p, v, rfl, .inl ⟨kvs, .inr k, .inl (s _ _ e), rfl, hv.symm⟩, q v H1 (.refl _) (dd_sm s _ _ hd)⟩
theorem s_pput {i : Nat} {k : Str} {kvs : List (Key × V)} (hi : σ[i]? = some (some (.ref p))) (e : H p = some (.dK kvs)) (hl : kvs.length < sizeLine) (h : EvD K te σ H d) (q : ∀ v H1, Same H H1 → Dd K H1 v d → D.nx σ (upd H1 p (.dK (putK kvs (.inr k) v)))) :
    sDPut (tVar i) (tC (.str k)) te D σ H := h H (.refl _) _ fun v H1 s dv => ⟨_, hi, p, _, rfl, .inl ⟨kvs, .inr k, s _ _ e, rfl, hl, rfl⟩, q v H1 s dv⟩
theorem s_mid (Mid : L2.St → Hp → Prop) (k : ∀ σ' H', Mid σ' H' → tw D σ' H') (h : ∀ N : L2.St → Hp → Prop, (∀ σ' H', Mid σ' H' → N σ' H') → tu { D with nx := N } σ H) : tSeq tu tw D σ H := h _ k
end
end T
namespace T
open PySem PySem.Spec L2
theorem joinL_nil : ∀ ls : List (List Nat), TL.joinL [] ls = ls.flatten
  | [] => rfl
  | [p] => by simp [TL.joinL]
  | p :: q :: r => by
    show p ++ ([] ++ TL.joinL [] (q :: r)) = _
    rw [joinL_nil (q :: r)]
    rfl
theorem join_tx (ls : List (List Nat)) : Txt.join (tx []) (ls.map tx) = tx ls.flatten := (SX.join_S [] ls).trans (by rw [joinL_nil]; rfl)
end T

namespace T
open PySem PySem.Spec L2
section
variable {K : PySem.W.Frag} {p c : Addr} {m n : Nat} {σ : L2.St} {H H' H1 : Hp} {te ta tb : TE} {d : PyData} {v : V} {D : Ends} {R : PyData → Prop}
theorem Px.mut {W : Addr} {o : HO} (a : Px p H H1) (h : H W = none) : Px p H (upd H1 W o) := fun x u n hx => by
  rw [upd_ne (ne_of_none hx h)]
  exact a x u n hx
theorem PenAt.upd {W : Addr} {o : HO} (a : PenAt H p c n) (h1 : W ≠ p) (h2 : W ≠ c) : PenAt (upd H W o) p c n := let ⟨ns, a, d, k, f, e1, e2, r⟩ := a.ex; ⟨ns, a, d, k, f, by rw [upd_ne h1.symm]; exact e1, by rw [upd_ne h2.symm]; exact e2, r⟩
theorem PenAt.ne {W : Addr} (a : PenAt H p c n) (h : H W = none) : W ≠ p ∧ W ≠ c := by
  obtain ⟨ns, a, d, k, f, e1, e2, r⟩ := a.ex
  exact ⟨(ne_of_none e1 h).symm, (ne_of_none e2 h).symm⟩
/-- words.append(..), where the word is drawn -/
theorem s_apP {i : Nat} {W : Addr} {xs : List V} (hi : σ[i]? = some (some (.ref W))) (hW : H W = some (.lst xs)) (n1 : W ≠ p) (hb : PenAt H p c n) (hz : n + m ≤ 100000) (h : EvP K p c m te σ H R) (hl : xs.length < 100000)
    (k : ∀ v H1 d, Px p H H1 → PenAt H1 p c (n + m) → R d → Dd K H1 v d → H1 W = some (.lst xs) → D.nx σ (upd H1 W (.lst (xs ++ [v])))) : tDrop (tBM K "list" rAppend (tVar i) (tCons te tNil)) D σ H :=
  ⟨_, hi, .inl ⟨rfl, _, .of hW⟩, h H n (.refl _ _) hb hz _ fun v H1 d px pa r dv => ⟨W, xs, v, rfl, rfl, px W _ n1 hW, by rw [sizeLine_eq]; omega, k v H1 d px pa r dv (px W _ n1 hW)⟩⟩
end
end T

namespace T
open PySem PySem.Spec L2
open PyProof.Rows hiding St
/-! ### own exceptions: facts by a Bool -/
def oexB (K : PySem.W.Frag) (C : Addr) : Bool := (match K.lookup C with
  | some ⟨.type "type", _, .cls cd, sl⟩ => (match cd.mro, sl.toList with
    | .ref C' :: bm, [_, _, _, _, some (.builtin n), _] => C' == C && n == "ValueError.__new__" && !cd.hasDel && cd.hasDict && PySem.HandSPX.refsVE bm
    | _, _ => false)
  | _ => false) && (decide (PySem.W.findIn K (.ref C) "__setattr__" = some (some (.builtin "object.__setattr__"))) && (decide (PySem.W.subIn K (.ref C) (.type "BaseException") = some true) && (decide (PySem.W.typeIn K (.ref C) = some (.type "type")) && PySem.W.keepIn K (.ref C))))
theorem oexB_ok {K : PySem.W.Frag} {C : Addr} (h : oexB K C = true) : OexC K C := by
  obtain ⟨h1, h⟩ := Bool.and_eq_true_iff.mp h
  obtain ⟨h2, h⟩ := Bool.and_eq_true_iff.mp h
  obtain ⟨h3, h⟩ := Bool.and_eq_true_iff.mp h
  obtain ⟨h4, h5⟩ := Bool.and_eq_true_iff.mp h
  refine ⟨?_, of_decide_eq_true h2, of_decide_eq_true h3, of_decide_eq_true h4, h5⟩
  split at h1
  · rename_i dd cd sl ho
    split at h1
    · rename_i C' bm k0 k1 k2 k3 n k5 hm hs
      simp only [Bool.and_eq_true, beq_iff_eq, Bool.not_eq_true'] at h1
      obtain ⟨⟨⟨⟨rfl, rfl⟩, hdel⟩, hd⟩, hr⟩ := h1
      obtain ⟨nm, bs, mro, ns, qn, hd', sn, sub, ab, col, del⟩ := cd
      dsimp only at hm hdel hd
      subst hm hdel hd
      have hsl : sl = #[k0, k1, k2, k3, some (.builtin "ValueError.__new__"), k5] := by
        obtain ⟨l⟩ := sl
        simp only at hs
        rw [hs]
      subst hsl
      exact ⟨nm, qn, ns, bs, bm, sn, sub, ab, col, dd, k0, k1, k2, k3, k5, ho, hr⟩
    · cases h1
  · cases h1
/-! ### defs that raise, exceptions made -/
structure MakX (P : Program) (w : World) (K : PySem.W.Frag) (mg : Str → Option Value) (base : Heap) (k : Nat) (x : Str) (C : Addr) (sp : Sp) : Prop where
  ex : ∃ fI fd ps, OexC K C ∧ PySem.W.findIn K (.ref C) "__init__" = some (some (.ref fI)) ∧ PySem.W.typeIn K (.ref fI) = some (.type "function") ∧ FnOk P w K mg base C8.CX0 k fI fd ps sp ∧ mg x = some (.ref C) ∧ Binds K fd ps []
structure CalX (P : Program) (w : World) (K : PySem.W.Frag) (mg : Str → Option Value) (base : Heap) (k : Nat) (x : Str) (sp : Sp) : Prop where
  ex : ∃ f fd ps, FnOk P w K mg base (L2.CX P w) k f fd ps sp ∧ mg x = some (.ref f) ∧ PySem.W.keepIn K (.ref f) = true ∧ Binds K fd ps []
section
variable {X : Cx} {k j : Nat} {x : Str} {sp : Sp} {p pos pos' : Pos} {e : Expr} {es : List Expr} {ta : TA} {W : WX} {C : Addr} {E : XK}
theorem pmk_x (m : MakX X.prog X.w X.K X.mg X.base k x C sp) (hr : Room j X.A) (hk : k + 1 ≤ j) (hg : Gl X x) (ha : PA X (e :: es) ta) (hdb : (x == ("__debug__" : Str)) = false := by decide)
    (he : starEach (e :: es) X.env = (false, eval e X.env) :: starEach es X.env := by rfl) (hpl : (backTo pos (starEach es X.env)).any (·.1) = false := by rfl) : PMk X (.Call (.Name x p) (e :: es) [] pos) (tMkO C sp [] ta) := by
  obtain ⟨fI, fd, ps, T, iC, tI, F1, hm, hb⟩ := m.ex
  exact pmk_oex (dvs := []) T iC tI F1 (hr.mono hk) hb .nil C8.pass0 hg hm ha hdb he hpl
theorem pe_cx (c : CalX X.prog X.w X.K X.mg X.base k x sp) (hr : Room j X.A) (hk : k ≤ j) (hg : Gl X x) (tk : Takes X W) (hE : ∀ cls d σ H, E cls d H → W cls d σ H) (ha : PA X (e :: es) ta) (hdb : (x == ("__debug__" : Str)) = false := by decide)
    (he : starEach (e :: es) X.env = (false, eval e X.env) :: starEach es X.env := by rfl) (hpl : (backTo pos (starEach es X.env)).any (·.1) = false := by rfl) : PE X (.Call (.Name x p) (e :: es) [] pos) (tCall sp [] E ta) := by
  obtain ⟨f, fd, ps, F, hm, hkp, hb⟩ := c.ex
  exact pe_call F (hr.mono hk) hg hm hkp hb .nil (passes_call tk hE) ha hdb he hpl
end
section
variable {P : Program} {w : World} {K : PySem.W.Frag} {mg : Str → Option Value} {base : Heap} {x m qual : Str} {pa : Arguments} {bd : List Stmt} {sc : Scope} {f C : Addr} {fd : FuncData} {N ps : List Str} {k : Nat} {sp : Sp}
theorem calx_of (F : FunD K x x pa bd sc [] [] f fd) (g : mg x = some (.ref f)) (b : Binds K fd ps []) (S : FnScope N ps sc) (len : ∀ vs H Q E, sp vs H Q E → vs.length = ps.length)
    (hb : ∀ (cdv : Value) (A : Around) (outer : List Env) (s : Shared) (H : Hp) (vs : List V) (Q : VK) (E : XK), Room k (A.deeper (envOfC x sc s.heap.objs.size f cdv)) → sp vs H Q E →
      ∃ t, PSs (cxOf (L2.CX P w) P w K mg base N x sc f cdv A outer s H E) bd t ∧ t { nx := fun _ H' => Q .non H', rt := Q } (start N vs) H) : CalX P w K mg base (k + 1) x sp :=
  ⟨f, fd, ps, F.ok S len hb, g, F.kp, b⟩
theorem makx_of (O : OexC K C) (iC : PySem.W.findIn K (.ref C) "__init__" = some (some (.ref f))) (tI : PySem.W.typeIn K (.ref f) = some (.type "function")) (hm : mg x = some (.ref C)) (F : FunD K "__init__" qual pa bd sc [] [] f fd) (b : Binds K fd ps []) (S : FnScope N ps sc) (len : ∀ vs H Q E, sp vs H Q E → vs.length = ps.length)
    (hb : ∀ (cdv : Value) (A : Around) (outer : List Env) (s : Shared) (H : Hp) (vs : List V) (Q : VK) (E : XK), Room k (A.deeper (envOfC qual sc s.heap.objs.size f cdv)) → sp vs H Q E →
      ∃ t, PSs (cxOf CX0 P w K mg base N qual sc f cdv A outer s H E).nox bd t ∧ t { nx := fun _ H' => Q .non H', rt := Q } (start N vs) H) : MakX P w K mg base (k + 1) x C sp :=
  ⟨f, fd, ps, O, iC, tI, fn_ok0 F S len hb, hm, b⟩
end
/-! ### try: return call() / except C as e: return (name, e.promise, e.witness) -/
def TTmet (K : PySem.W.Frag) (CS : Addr) (nm : Str) : (XK → Hp → VK → Prop) → Hp → VK → Prop := fun tl H Q =>
  tl (fun cls d H' => cls = .ref CS ∧ ∃ dd fs p w, d = some dd ∧ H' dd = some (.xd fs) ∧ fs.lookup ("promise" : Str) = some p ∧ fs.lookup ("witness" : Str) = some w ∧ ∀ t, H' t = none → Q (.ref t) (upd H' t (.tup [.str nm, p, w]))) H Q
section
variable {X : Cx}
/-- a name's slot, where the slots are as many as the names -/
def tVarL (i n : Nat) : TE := fun σ H Q => σ.length = n → tVar i σ H Q
theorem pvL (i : Nat) {x : Str} {pos : Pos} (hN : X.N[i]? = some x) (hv : Vis X.env.scope x) (hd : (x == ("__debug__" : Str)) = false) (hc : (x == ("__classdict__" : Str)) = false) : PE X (.Name x pos) (tVarL i X.N.length) :=
  ⟨fun pins s σ H Q I h => (pe_var hN hv hd hc).run pins s σ H Q I (h I.len)⟩
theorem met_gives {Ng : List Str} {x a e q nm n : Str} {sg : Scope} {g CS : Addr} {cdg : Value} {j j2 : Nat} {p1 p2 p3 p4 p5 p6 p7 p8 p9 p10 p11 p12 p13 : Pos} (hN : Ng.Nodup) (hn : Ng[1]? = some n) (hln : sg.names.lookup n = some .local)
    (hge : sg.names.lookup e = some .globalImplicit) (hme : X.mg e = some (.ref CS)) (hde : (e == ("__debug__" : Str)) = false) (hnd : (n == ("__debug__" : Str)) = false) (hnc : (n == ("__classdict__" : Str)) = false) (h0 : ∀ f : Addr, (L2.start Ng [V.ref f])[0]? = some (some (V.ref f)))
    (hx : XfC X.K CS) (np : PySem.W.findIn X.K (.ref CS) "promise" = some none) (nw : PySem.W.findIn X.K (.ref CS) "witness" = some none) (hxm : PySem.W.exmOne X.K (.ref CS) (.ref CS) = some true) :
    LamX.GivesTo X Ng x sg g cdg [.Try [.Return (some (.Call (.Name a p1) [] [] p2)) p3] [.ExceptHandler (some (.Name e p4)) (some n) [.Return (some (.Tuple [.Constant (.str nm) j p5, .Attribute (.Name n p6) "promise" p7, .Attribute (.Name n p8) "witness" p9] j2 p10)) p11] p12] [] [] p13] a q (TTmet X.K CS nm) := by
  intro f c' s H Q tl act hc h
  have hgl : Gl (cxOf C8.CX0 X.prog X.w X.K X.mg X.base Ng x sg g cdg X.A X.stack s H C8.E0).nox e := hge
  refine ⟨_, pss_one (ps_try_as (X := (cxOf C8.CX0 X.prog X.w X.K X.mg X.base Ng x sg g cdg X.A X.stack s H C8.E0).nox) (c := .ref CS) (i := 1)
      (tb := fun W D σ H => ∃ Ech : XK, (∀ cls d σ' H', Ech cls d H' → W cls d σ' H') ∧ σ[0]? = some (some (.ref f)) ∧ H c' = some (LamX.CodeO c' q) ∧ tl Ech H D.rt)
      (ts := fun a cls d => tRet (tTup (tCons (tC (.str nm)) (tCons (tXf a cls d CS "promise" (tVarL 1 Ng.length)) (tCons (tXf a cls d CS "witness" (tVarL 1 Ng.length)) tNil)))))
      rfl rfl hN hn hln ⟨hgl, hde, .inl hme⟩ LamX.takes0 (fun W pn xe tk _ => ?_) (fun a oe cls d pn hz hf => ?_)), ?_⟩
  · refine ⟨fun pins s' σ H' D I h' => ?_⟩
    obtain ⟨Ech, hW, h1, h2, h3⟩ := h'
    have hp := act W pn xe Ech p1 p2 tk hW
    have hq := pss_one (ps_ret (pos := p3) hp)
    exact hq.run pins s' σ H' D I ⟨h1, h2, h3⟩
  · exact pss_one (ps_ret (pe_tup (pa_cons pe_str (pa_cons (pe_xf hx np hz hf (pvL 1 hn (.inl hln) hnd hnc)) (pa_cons (pe_xf hx nw hz hf (pvL 1 hn (.inl hln) hnd hnc)) pa_nil)))))
  · refine ⟨fun cls d H' => cls = .ref CS ∧ ∃ dd fs p w, d = some dd ∧ H' dd = some (.xd fs) ∧ fs.lookup ("promise" : Str) = some p ∧ fs.lookup ("witness" : Str) = some w ∧ ∀ t, H' t = none → Q (.ref t) (upd H' t (.tup [.str nm, p, w])), fun cls d σ' H' ⟨e1, dd, fs, pv, wv, e2, e3, e4, e5, e6⟩ => ?_, h0 f, hc, h⟩
    subst e1 e2
    refine ⟨true, hxm, fun _ a _ => ?_, fun z => by cases z⟩
    have h1n : 1 < Ng.length := (List.getElem?_eq_some_iff.mp hn).1
    have slot : σ'.length = Ng.length → (σ'.set 1 (some (V.ref a)))[1]? = some (some (V.ref a)) := fun hl => by rw [List.getElem?_set_self (by omega)]
    refine fun hl => ⟨_, slot (by rw [List.length_set] at hl; exact hl), rfl, rfl, dd, fs, pv, rfl, e3, e4, ?_⟩
    refine fun hl => ⟨_, slot (by rw [List.length_set] at hl; exact hl), rfl, rfl, dd, fs, wv, rfl, e3, e5, ?_⟩
    exact ⟨by show 3 ≤ sizeLine; decide, fun t ht => e6 t ht⟩
end
end T

namespace K75
open PySem PySem.Spec PyProof.Rows L2
def top (i : Nat) : Stmt := PySem.Challenge.pw_textways_k75_whole_edits_behind_edits.main.body.getD i (.Pass ⟨0, 0, 0, 0⟩)
abbrev s_BadSigns_init : Stmt := inClass (top 2) 0
abbrev s_BadWord_init : Stmt := inClass (top 3) 0
abbrev s_BadPaper_init : Stmt := inClass (top 4) 0
abbrev s_NotKept_init : Stmt := inClass (top 5) 0
abbrev s_are_signs : Stmt := top 8
abbrev s_need_signs : Stmt := top 9
abbrev s_is_text_in : Stmt := top 10
abbrev s_need_text : Stmt := top 11
abbrev s_is_edit_word : Stmt := top 14
abbrev s_is_edit_in : Stmt := top 15
abbrev s_pairs_in : Stmt := top 16
abbrev s_need_edit : Stmt := top 17
abbrev s_taken_by : Stmt := top 18
abbrev s_left_by : Stmt := top 19
abbrev s_edit_sizes : Stmt := top 20
abbrev s_Plain_init : Stmt := inClass (top 21) 0
abbrev s_Plain_close_gap : Stmt := inClass (top 21) 1
abbrev s_Plain_keep_signs : Stmt := inClass (top 21) 2
abbrev s_Plain_drop_signs : Stmt := inClass (top 21) 3
abbrev s_Plain_put_text : Stmt := inClass (top 21) 4
abbrev s_Plain_told : Stmt := inClass (top 21) 5
abbrev s_plain_in : Stmt := top 22
abbrev s_plain_edit : Stmt := top 23
abbrev s_applied_in : Stmt := top 24
abbrev s_need_taken : Stmt := top 25
abbrev s_applied : Stmt := top 26
abbrev s_behind_in : Stmt := top 27
abbrev s_passed_gone : Stmt := top 28
abbrev s_edit_behind : Stmt := top 29
abbrev s_turned_edit : Stmt := top 30
abbrev s_L_pen : Stmt := top 32
abbrev s_L_draw : Stmt := top 33
abbrev s_L_pick : Stmt := top 34
abbrev s_L_met : Stmt := top 35
abbrev s_L_pairs : Stmt := top 36
abbrev s_L_items : Stmt := top 37
abbrev s_L_plain_told : Stmt := top 38
abbrev s_L_applied : Stmt := top 39
abbrev s_L_some_edit : Stmt := top 40
abbrev s_L_line : Stmt := top 41
abbrev s_L_through : Stmt := top 42
abbrev s_law : Stmt := top 43
def d_BadSigns_init : He.DefD := ⟨("BadSigns", some "__init__"), "__init__", "BadSigns.__init__", defArgs s_BadSigns_init, defBody s_BadSigns_init, defScope s_BadSigns_init, [], []⟩
def d_BadWord_init : He.DefD := ⟨("BadWord", some "__init__"), "__init__", "BadWord.__init__", defArgs s_BadWord_init, defBody s_BadWord_init, defScope s_BadWord_init, [], []⟩
def d_BadPaper_init : He.DefD := ⟨("BadPaper", some "__init__"), "__init__", "BadPaper.__init__", defArgs s_BadPaper_init, defBody s_BadPaper_init, defScope s_BadPaper_init, [], []⟩
def d_NotKept_init : He.DefD := ⟨("NotKept", some "__init__"), "__init__", "NotKept.__init__", defArgs s_NotKept_init, defBody s_NotKept_init, defScope s_NotKept_init, [], []⟩
def d_are_signs : He.DefD := ⟨("are_signs", none), "are_signs", "are_signs", defArgs s_are_signs, defBody s_are_signs, defScope s_are_signs, [], []⟩
def d_need_signs : He.DefD := ⟨("need_signs", none), "need_signs", "need_signs", defArgs s_need_signs, defBody s_need_signs, defScope s_need_signs, [], []⟩
def d_is_text_in : He.DefD := ⟨("is_text_in", none), "is_text_in", "is_text_in", defArgs s_is_text_in, defBody s_is_text_in, defScope s_is_text_in, [], []⟩
def d_need_text : He.DefD := ⟨("need_text", none), "need_text", "need_text", defArgs s_need_text, defBody s_need_text, defScope s_need_text, [], []⟩
def d_is_edit_word : He.DefD := ⟨("is_edit_word", none), "is_edit_word", "is_edit_word", defArgs s_is_edit_word, defBody s_is_edit_word, defScope s_is_edit_word, [], []⟩
def d_is_edit_in : He.DefD := ⟨("is_edit_in", none), "is_edit_in", "is_edit_in", defArgs s_is_edit_in, defBody s_is_edit_in, defScope s_is_edit_in, [], []⟩
def d_pairs_in : He.DefD := ⟨("pairs_in", none), "pairs_in", "pairs_in", defArgs s_pairs_in, defBody s_pairs_in, defScope s_pairs_in, [], []⟩
def d_need_edit : He.DefD := ⟨("need_edit", none), "need_edit", "need_edit", defArgs s_need_edit, defBody s_need_edit, defScope s_need_edit, [], []⟩
def d_taken_by : He.DefD := ⟨("taken_by", none), "taken_by", "taken_by", defArgs s_taken_by, defBody s_taken_by, defScope s_taken_by, [], []⟩
def d_left_by : He.DefD := ⟨("left_by", none), "left_by", "left_by", defArgs s_left_by, defBody s_left_by, defScope s_left_by, [], []⟩
def d_edit_sizes : He.DefD := ⟨("edit_sizes", none), "edit_sizes", "edit_sizes", defArgs s_edit_sizes, defBody s_edit_sizes, defScope s_edit_sizes, [], []⟩
def d_Plain_init : He.DefD := ⟨("Plain", some "__init__"), "__init__", "Plain.__init__", defArgs s_Plain_init, defBody s_Plain_init, defScope s_Plain_init, [], []⟩
def d_Plain_close_gap : He.DefD := ⟨("Plain", some "close_gap"), "close_gap", "Plain.close_gap", defArgs s_Plain_close_gap, defBody s_Plain_close_gap, defScope s_Plain_close_gap, [], []⟩
def d_Plain_keep_signs : He.DefD := ⟨("Plain", some "keep_signs"), "keep_signs", "Plain.keep_signs", defArgs s_Plain_keep_signs, defBody s_Plain_keep_signs, defScope s_Plain_keep_signs, [], []⟩
def d_Plain_drop_signs : He.DefD := ⟨("Plain", some "drop_signs"), "drop_signs", "Plain.drop_signs", defArgs s_Plain_drop_signs, defBody s_Plain_drop_signs, defScope s_Plain_drop_signs, [], []⟩
def d_Plain_put_text : He.DefD := ⟨("Plain", some "put_text"), "put_text", "Plain.put_text", defArgs s_Plain_put_text, defBody s_Plain_put_text, defScope s_Plain_put_text, [], []⟩
def d_Plain_told : He.DefD := ⟨("Plain", some "told"), "told", "Plain.told", defArgs s_Plain_told, defBody s_Plain_told, defScope s_Plain_told, [], []⟩
def d_plain_in : He.DefD := ⟨("plain_in", none), "plain_in", "plain_in", defArgs s_plain_in, defBody s_plain_in, defScope s_plain_in, [], []⟩
def d_plain_edit : He.DefD := ⟨("plain_edit", none), "plain_edit", "plain_edit", defArgs s_plain_edit, defBody s_plain_edit, defScope s_plain_edit, [], []⟩
def d_applied_in : He.DefD := ⟨("applied_in", none), "applied_in", "applied_in", defArgs s_applied_in, defBody s_applied_in, defScope s_applied_in, [], []⟩
def d_need_taken : He.DefD := ⟨("need_taken", none), "need_taken", "need_taken", defArgs s_need_taken, defBody s_need_taken, defScope s_need_taken, [], []⟩
def d_applied : He.DefD := ⟨("applied", none), "applied", "applied", defArgs s_applied, defBody s_applied, defScope s_applied, [], []⟩
def d_behind_in : He.DefD := ⟨("behind_in", none), "behind_in", "behind_in", defArgs s_behind_in, defBody s_behind_in, defScope s_behind_in, [], []⟩
def d_passed_gone : He.DefD := ⟨("passed_gone", none), "passed_gone", "passed_gone", defArgs s_passed_gone, defBody s_passed_gone, defScope s_passed_gone, [], []⟩
def d_edit_behind : He.DefD := ⟨("edit_behind", none), "edit_behind", "edit_behind", defArgs s_edit_behind, defBody s_edit_behind, defScope s_edit_behind, [], []⟩
def d_turned_edit : He.DefD := ⟨("turned_edit", none), "turned_edit", "turned_edit", defArgs s_turned_edit, defBody s_turned_edit, defScope s_turned_edit, [], []⟩
def d_L_pen : He.DefD := ⟨("_law_pen", none), "_law_pen", "_law_pen", defArgs s_L_pen, defBody s_L_pen, defScope s_L_pen, [], []⟩
def d_L_draw : He.DefD := ⟨("_law_draw", none), "_law_draw", "_law_draw", defArgs s_L_draw, defBody s_L_draw, defScope s_L_draw, [], []⟩
def d_L_pick : He.DefD := ⟨("_law_pick", none), "_law_pick", "_law_pick", defArgs s_L_pick, defBody s_L_pick, defScope s_L_pick, [], []⟩
def d_L_met : He.DefD := ⟨("_law_met", none), "_law_met", "_law_met", defArgs s_L_met, defBody s_L_met, defScope s_L_met, [], []⟩
def d_L_pairs : He.DefD := ⟨("_law_pairs", none), "_law_pairs", "_law_pairs", defArgs s_L_pairs, defBody s_L_pairs, defScope s_L_pairs, [], []⟩
def d_L_items : He.DefD := ⟨("_law_items", none), "_law_items", "_law_items", defArgs s_L_items, defBody s_L_items, defScope s_L_items, [], []⟩
def d_L_plain_told : He.DefD := ⟨("_law_plain_told", none), "_law_plain_told", "_law_plain_told", defArgs s_L_plain_told, defBody s_L_plain_told, defScope s_L_plain_told, [], []⟩
def d_L_applied : He.DefD := ⟨("_law_applied", none), "_law_applied", "_law_applied", defArgs s_L_applied, defBody s_L_applied, defScope s_L_applied, [], []⟩
def d_L_some_edit : He.DefD := ⟨("_law_some_edit", none), "_law_some_edit", "_law_some_edit", defArgs s_L_some_edit, defBody s_L_some_edit, defScope s_L_some_edit, [], []⟩
def d_L_line : He.DefD := ⟨("_law_line", none), "_law_line", "_law_line", defArgs s_L_line, defBody s_L_line, defScope s_L_line, [], []⟩
def d_L_through : He.DefD := ⟨("_law_through", none), "_law_through", "_law_through", defArgs s_L_through, defBody s_L_through, defScope s_L_through, [], []⟩
def d_law : He.DefD := ⟨("law", none), "law", "law", defArgs s_law, defBody s_law, defScope s_law, [], []⟩
def fn : List He.DefD := [d_BadSigns_init, d_BadWord_init, d_BadPaper_init, d_NotKept_init, d_are_signs, d_need_signs, d_is_text_in, d_need_text, d_is_edit_word, d_is_edit_in, d_pairs_in, d_need_edit, d_taken_by, d_left_by, d_edit_sizes, d_Plain_init, d_Plain_close_gap, d_Plain_keep_signs, d_Plain_drop_signs, d_Plain_put_text, d_Plain_told, d_plain_in, d_plain_edit, d_applied_in, d_need_taken, d_applied, d_behind_in, d_passed_gone, d_edit_behind, d_turned_edit, d_L_pen, d_L_draw, d_L_pick, d_L_met, d_L_pairs, d_L_items, d_L_plain_told, d_L_applied, d_L_some_edit, d_L_line, d_L_through, d_law]
def fa : List He.Fa := [.glo "are_signs", .glo "need_signs", .glo "is_text_in", .glo "need_text", .glo "is_edit_word", .glo "is_edit_in", .glo "pairs_in", .glo "need_edit", .glo "taken_by", .glo "left_by", .glo "edit_sizes", .glo "plain_in", .glo "plain_edit", .glo "applied_in", .glo "need_taken", .glo "applied", .glo "behind_in", .glo "passed_gone", .glo "edit_behind", .glo "turned_edit", .glo "_law_pen", .glo "_law_draw", .glo "_law_pick", .glo "_law_met", .glo "_law_pairs", .glo "_law_items", .glo "_law_plain_told", .glo "_law_applied", .glo "_law_some_edit", .glo "_law_line", .glo "_law_through", .glo "law", .glo "WayError", .glo "BadSigns", .glo "BadWord", .glo "BadPaper", .glo "NotKept", .glo "Plain", .free "ValueError", .free "all", .free "int", .free "isinstance", .free "len", .free "list", .free "min", .free "range", .free "str", .free "sum", .free "tuple", .str "TEXT_SIGNS" "abcdefghijklmnopqrstuvwxyz0123456789:;,=+", .str "COUNT_SIGNS" "0123456789", .cls "Plain", .mkr "Plain", .meth "Plain" "__init__", .meth "Plain" "close_gap", .meth "Plain" "keep_signs", .meth "Plain" "drop_signs", .meth "Plain" "put_text", .meth "Plain" "told", .noat "Plain" "dropped", .noat "Plain" "fresh", .noat "Plain" "kept", .noat "Plain" "told_words", .meth "NotKept" "__init__", .noat "NotKept" "promise", .noat "NotKept" "witness", .exm "NotKept" "NotKept" true]
def loose0 : List Str := ["WayError", "BadSigns", "BadWord", "BadPaper", "NotKept", "TEXT_SIGNS", "are_signs", "need_signs", "is_text_in", "need_text", "COUNT_SIGNS", "is_edit_word", "is_edit_in", "pairs_in", "need_edit", "taken_by", "left_by", "edit_sizes", "Plain", "plain_in", "plain_edit", "applied_in", "need_taken", "applied", "behind_in", "passed_gone", "edit_behind", "turned_edit", "_law_pen", "_law_draw"]
def loose1 : List Str := ["_law_pick", "_law_met", "_law_pairs", "_law_items", "_law_plain_told", "_law_applied", "_law_some_edit", "_law_line", "_law_through"]
def loose : List Str := loose0 ++ loose1
abbrev R : PySem.W.OpenRow := PySem.W.OpenLaw.row PySem.Challenge.rw_textways_k75_whole_edits_behind_edits
def lawAt : Nat := 43
def tf : List He.Defn := [("law", none)]
def ex (K : PySem.W.Frag) : Bool := (T.oexB K (He.ga K "NotKept") && L2.xfB K (He.ga K "NotKept"))
abbrev hk : PySem.W.Hook := He.hookX 4 fa fn [] tf ex
def ob (s : PySem.W.SharedT) : He.AlX := He.obsX 4 fa fn [] tf ex (HandSHeadRun.getT s)
theorem ob_eq (s : PySem.W.SharedT) : ob s = hk.obs s.abs := He.obsX_eq (HandSHeadRun.getT_eq s)
theorem run (w : World) : HandSHeadRun.RunEq R (PySem.W.view R.prog [lawAt]) hk ob 20000 loose w := by
  intro os
  kernel_rfl
-- fact 0 .glo "are_signs"
-- fact 1 .glo "need_signs"
-- fact 2 .glo "is_text_in"
-- fact 3 .glo "need_text"
-- fact 4 .glo "is_edit_word"
-- fact 5 .glo "is_edit_in"
-- fact 6 .glo "pairs_in"
-- fact 7 .glo "need_edit"
-- fact 8 .glo "taken_by"
-- fact 9 .glo "left_by"
-- fact 10 .glo "edit_sizes"
-- fact 11 .glo "plain_in"
-- fact 12 .glo "plain_edit"
-- fact 13 .glo "applied_in"
-- fact 14 .glo "need_taken"
-- fact 15 .glo "applied"
-- fact 16 .glo "behind_in"
-- fact 17 .glo "passed_gone"
-- fact 18 .glo "edit_behind"
-- fact 19 .glo "turned_edit"
-- fact 20 .glo "_law_pen"
-- fact 21 .glo "_law_draw"
-- fact 22 .glo "_law_pick"
-- fact 23 .glo "_law_met"
-- fact 24 .glo "_law_pairs"
-- fact 25 .glo "_law_items"
-- fact 26 .glo "_law_plain_told"
-- fact 27 .glo "_law_applied"
-- fact 28 .glo "_law_some_edit"
-- fact 29 .glo "_law_line"
-- fact 30 .glo "_law_through"
-- fact 31 .glo "law"
-- fact 32 .glo "WayError"
-- fact 33 .glo "BadSigns"
-- fact 34 .glo "BadWord"
-- fact 35 .glo "BadPaper"
-- fact 36 .glo "NotKept"
-- fact 37 .glo "Plain"
-- fact 38 .free "ValueError"
-- fact 39 .free "all"
-- fact 40 .free "int"
-- fact 41 .free "isinstance"
-- fact 42 .free "len"
-- fact 43 .free "list"
-- fact 44 .free "min"
-- fact 45 .free "range"
-- fact 46 .free "str"
-- fact 47 .free "sum"
-- fact 48 .free "tuple"
-- fact 49 .str "TEXT_SIGNS" "abcdefghijklmnopqrstuvwxyz0123456789:;,=+"
-- fact 50 .str "COUNT_SIGNS" "0123456789"
-- fact 51 .cls "Plain"
-- fact 52 .mkr "Plain"
-- fact 53 .meth "Plain" "__init__"
-- fact 54 .meth "Plain" "close_gap"
-- fact 55 .meth "Plain" "keep_signs"
-- fact 56 .meth "Plain" "drop_signs"
-- fact 57 .meth "Plain" "put_text"
-- fact 58 .meth "Plain" "told"
-- fact 59 .noat "Plain" "dropped"
-- fact 60 .noat "Plain" "fresh"
-- fact 61 .noat "Plain" "kept"
-- fact 62 .noat "Plain" "told_words"
-- fact 63 .meth "NotKept" "__init__"
-- fact 64 .noat "NotKept" "promise"
-- fact 65 .noat "NotKept" "witness"
-- fact 66 .exm "NotKept" "NotKept" true
-- def_ 0 d_BadSigns_init
-- def_ 1 d_BadWord_init
-- def_ 2 d_BadPaper_init
-- def_ 3 d_NotKept_init
-- def_ 4 d_are_signs
-- def_ 5 d_need_signs
-- def_ 6 d_is_text_in
-- def_ 7 d_need_text
-- def_ 8 d_is_edit_word
-- def_ 9 d_is_edit_in
-- def_ 10 d_pairs_in
-- def_ 11 d_need_edit
-- def_ 12 d_taken_by
-- def_ 13 d_left_by
-- def_ 14 d_edit_sizes
-- def_ 15 d_Plain_init
-- def_ 16 d_Plain_close_gap
-- def_ 17 d_Plain_keep_signs
-- def_ 18 d_Plain_drop_signs
-- def_ 19 d_Plain_put_text
-- def_ 20 d_Plain_told
-- def_ 21 d_plain_in
-- def_ 22 d_plain_edit
-- def_ 23 d_applied_in
-- def_ 24 d_need_taken
-- def_ 25 d_applied
-- def_ 26 d_behind_in
-- def_ 27 d_passed_gone
-- def_ 28 d_edit_behind
-- def_ 29 d_turned_edit
-- def_ 30 d_L_pen
-- def_ 31 d_L_draw
-- def_ 32 d_L_pick
-- def_ 33 d_L_met
-- def_ 34 d_L_pairs
-- def_ 35 d_L_items
-- def_ 36 d_L_plain_told
-- def_ 37 d_L_applied
-- def_ 38 d_L_some_edit
-- def_ 39 d_L_line
-- def_ 40 d_L_through
-- def_ 41 d_law
end K75

/-! ## edits as data: core Lean alone -/
namespace Ed
inductive Wd where
  | k (n : Nat) | d (n : Nat) | p (l : List Nat)
  deriving DecidableEq

/-- a word of an edit over signs -/
def okW (a : List Nat) : Wd → Prop
  | .k n => 1 ≤ n ∧ n ≤ 999
  | .d n => 1 ≤ n ∧ n ≤ 999
  | .p l => l ≠ [] ∧ (∀ c ∈ l, c ∈ a) ∧ l.length ≤ 1000
def volW : Wd → Nat
  | .k n => n | .d n => n | .p l => l.length
def vol (ws : List Wd) : Nat := (ws.map volW).sum
structure OkE (a : List Nat) (ws : List Wd) : Prop where
  ok : ∀ w ∈ ws, okW a w
  vo : vol ws ≤ 900
theorem vol_pos {a : List Nat} {w : Wd} (h : okW a w) : 1 ≤ volW w := by
  cases w with
  | k n => exact h.1
  | d n => exact h.1
  | p l => exact Nat.one_le_iff_ne_zero.mpr fun e => h.1 (List.eq_nil_of_length_eq_zero e)
theorem len_vol {a : List Nat} : ∀ {ws : List Wd}, (∀ w ∈ ws, okW a w) → ws.length ≤ vol ws
  | [], _ => Nat.le_refl _
  | w :: ws, h => by
    have h1 := vol_pos (h w List.mem_cons_self)
    have h2 := len_vol (ws := ws) fun x hx => h x (List.mem_cons_of_mem _ hx)
    unfold vol at *
    rw [List.map_cons, List.sum_cons, List.length_cons]
    omega
theorem OkE.hi {a : List Nat} {ws : List Wd} (h : OkE a ws) : ws.length ≤ 1000 := by
  have := len_vol h.ok
  have := h.vo
  omega

def takW (w : Wd) : Nat := match w with | .k n => n | .d n => n | .p _ => 0
def lefW (w : Wd) : Nat := match w with | .k n => n | .d _ => 0 | .p l => l.length
def cosW (w : Wd) : Nat := match w with | .k _ => 0 | .d n => n | .p l => l.length
def taken (ws : List Wd) : Nat := (ws.map takW).sum
def lefts (ws : List Wd) : Nat := (ws.map lefW).sum
def costs (ws : List Wd) : Nat := (ws.map cosW).sum

structure PS where
  ws : List Wd
  k : Nat
  d : Nat
  f : List Nat
def PS.size (s : PS) : Nat := s.ws.length + s.k + s.d + s.f.length
def PS.close (s : PS) : PS := ⟨s.ws ++ (if s.k = 0 then [] else [.k s.k]) ++ (if s.d = 0 then [] else [.d s.d]) ++ (if s.f = [] then [] else [.p s.f]), 0, 0, []⟩
def PS.gap (s : PS) : PS := if s.d = 0 ∧ s.f = [] then s else s.close
def PS.keep (s : PS) (n : Nat) : PS := { s.gap with k := s.gap.k + n }
def PS.drop (s : PS) (n : Nat) : PS := { s with d := s.d + n }
def PS.put (s : PS) (l : List Nat) : PS := { s with f := s.f ++ l }
def PS.told (s : PS) : List Wd := s.close.ws
def PS.nil : PS := ⟨[], 0, 0, []⟩
theorem PS.close_size (s : PS) : s.close.size ≤ s.size := by
  unfold PS.close PS.size
  simp only [List.length_append, List.length_nil]
  have h1 : (if s.k = 0 then ([] : List Wd) else [.k s.k]).length ≤ s.k := by split <;> simp <;> omega
  have h2 : (if s.d = 0 then ([] : List Wd) else [.d s.d]).length ≤ s.d := by split <;> simp <;> omega
  have h3 : (if s.f = [] then ([] : List Wd) else [.p s.f]).length ≤ s.f.length := by
    split
    · simp
    · rename_i h
      have : s.f.length ≠ 0 := fun e => h (List.eq_nil_of_length_eq_zero e)
      simp
      omega
  omega
theorem PS.gap_size (s : PS) : s.gap.size ≤ s.size := by
  unfold PS.gap
  split
  · exact Nat.le_refl _
  · exact s.close_size
theorem PS.keep_size (s : PS) (n : Nat) : (s.keep n).size ≤ s.size + n := by
  have := s.gap_size
  unfold PS.keep
  unfold PS.size at *
  simp only at *
  omega
theorem PS.drop_size (s : PS) (n : Nat) : (s.drop n).size = s.size + n := by
  unfold PS.drop PS.size
  simp only
  omega
theorem PS.put_size (s : PS) (l : List Nat) : (s.put l).size = s.size + l.length := by
  unfold PS.put PS.size
  simp only [List.length_append]
  omega

def stepW (s : PS) : Wd → PS
  | .k n => s.keep n
  | .d n => s.drop n
  | .p l => s.put l
def plainS (ws : List Wd) : PS := ws.foldl stepW PS.nil
def apl (t : List Nat) : List Wd → Nat → List Nat
  | [], _ => []
  | .k n :: r, i => (t.drop i).take n ++ apl t r (i + n)
  | .d n :: r, i => apl t r (i + n)
  | .p l :: r, i => l ++ apl t r i
def stepT (t : List Nat) (q : PS × Nat) : Wd → PS × Nat
  | .k n => (q.1.keep n, q.2 + n)
  | .d n => (q.1.put ((t.drop q.2).take n), q.2 + n)
  | .p l => (q.1.drop l.length, q.2)
def turnS (t : List Nat) (ws : List Wd) : PS × Nat := ws.foldl (stepT t) (PS.nil, 0)
theorem stepW_size (s : PS) (w : Wd) : (stepW s w).size ≤ s.size + volW w := by
  cases w with
  | k n => exact s.keep_size n
  | d n => exact Nat.le_of_eq (s.drop_size n)
  | p l => exact Nat.le_of_eq (s.put_size l)
theorem stepT_size (t : List Nat) (q : PS × Nat) (w : Wd) : (stepT t q w).1.size ≤ q.1.size + volW w := by
  cases w with
  | k n => exact q.1.keep_size n
  | d n =>
    show (q.1.put _).size ≤ _ + n
    rw [q.1.put_size]
    have : ((t.drop q.2).take n).length ≤ n := List.length_take_le _ _
    omega
  | p l => exact Nat.le_of_eq (q.1.drop_size l.length)
theorem fold_size : ∀ (ws : List Wd) (s : PS), (ws.foldl stepW s).size ≤ s.size + vol ws
  | [], s => Nat.le_add_right _ _
  | w :: ws, s => by
    have h1 := stepW_size s w
    have h2 := fold_size ws (stepW s w)
    have e : vol (w :: ws) = volW w + vol ws := by unfold vol; rw [List.map_cons, List.sum_cons]
    rw [List.foldl_cons, e]
    omega
theorem foldT_size (t : List Nat) : ∀ (ws : List Wd) (q : PS × Nat), (ws.foldl (stepT t) q).1.size ≤ q.1.size + vol ws
  | [], s => Nat.le_add_right _ _
  | w :: ws, q => by
    have h1 := stepT_size t q w
    have h2 := foldT_size t ws (stepT t q w)
    have e : vol (w :: ws) = volW w + vol ws := by unfold vol; rw [List.map_cons, List.sum_cons]
    rw [List.foldl_cons, e]
    omega
theorem vol_take (ws : List Wd) (i : Nat) : vol (ws.take i) ≤ vol ws := by
  unfold vol
  conv => rhs; rw [← List.take_append_drop i ws]
  rw [List.map_append, List.sum_append]
  omega
theorem plainS_size (ws : List Wd) (i : Nat) : (plainS (ws.take i)).size ≤ vol ws := by
  have := fold_size (ws.take i) PS.nil
  have h2 := vol_take ws i
  have e : PS.nil.size = 0 := rfl
  unfold plainS
  omega
theorem turnS_size (t : List Nat) (ws : List Wd) (i : Nat) : (turnS t (ws.take i)).1.size ≤ vol ws := by
  have := foldT_size t (ws.take i) (PS.nil, 0)
  have h2 := vol_take ws i
  have e : (PS.nil, 0).1.size = 0 := rfl
  unfold turnS
  omega
theorem plainS_snoc (ws : List Wd) (w : Wd) : plainS (ws ++ [w]) = stepW (plainS ws) w := by
  unfold plainS
  rw [List.foldl_append]
  rfl
theorem turnS_snoc (t : List Nat) (ws : List Wd) (w : Wd) : turnS t (ws ++ [w]) = stepT t (turnS t ws) w := by
  unfold turnS
  rw [List.foldl_append]
  rfl
theorem taken_snoc (ws : List Wd) (w : Wd) : taken (ws ++ [w]) = taken ws + takW w := by
  unfold taken
  rw [List.map_append, List.sum_append]
  simp
theorem foldT_at (t : List Nat) : ∀ (ws : List Wd) (q : PS × Nat), (ws.foldl (stepT t) q).2 = q.2 + taken ws
  | [], q => rfl
  | w :: ws, q => by
    have ih := foldT_at t ws (stepT t q w)
    have e : taken (w :: ws) = takW w + taken ws := by unfold taken; rw [List.map_cons, List.sum_cons]
    rw [List.foldl_cons, ih, e]
    cases w <;> simp only [stepT, takW] <;> omega
theorem turnS_at (t : List Nat) (ws : List Wd) : (turnS t ws).2 = taken ws := by
  have := foldT_at t ws (PS.nil, 0)
  unfold turnS
  omega
theorem apl_app (t : List Nat) : ∀ (xs ys : List Wd) (i : Nat), apl t (xs ++ ys) i = apl t xs i ++ apl t ys (i + taken xs)
  | [], ys, i => rfl
  | w :: xs, ys, i => by
    have e : taken (w :: xs) = takW w + taken xs := by unfold taken; rw [List.map_cons, List.sum_cons]
    cases w with
    | k n =>
      show (t.drop i).take n ++ apl t (xs ++ ys) (i + n) = _
      rw [apl_app t xs ys, e, ← List.append_assoc]
      show _ = _ ++ apl t ys (i + (n + taken xs))
      rw [Nat.add_assoc]
      rfl
    | d n =>
      show apl t (xs ++ ys) (i + n) = _
      rw [apl_app t xs ys, e]
      show _ = _ ++ apl t ys (i + (n + taken xs))
      rw [Nat.add_assoc]
      rfl
    | p l =>
      show l ++ apl t (xs ++ ys) i = _
      rw [apl_app t xs ys, e, ← List.append_assoc]
      show _ = _ ++ apl t ys (i + (0 + taken xs))
      rw [Nat.zero_add]
      rfl
theorem apl_len (t : List Nat) : ∀ (ws : List Wd) (i : Nat), (apl t ws i).length ≤ vol ws
  | [], _ => Nat.le_refl _
  | w :: ws, i => by
    have e : vol (w :: ws) = volW w + vol ws := by unfold vol; rw [List.map_cons, List.sum_cons]
    rw [e]
    cases w with
    | k n =>
      have h1 := apl_len t ws (i + n)
      have h2 : ((t.drop i).take n).length ≤ n := List.length_take_le _ _
      show (_ ++ _ : List Nat).length ≤ n + _
      rw [List.length_append]
      omega
    | d n =>
      have h1 := apl_len t ws (i + n)
      show (apl t ws (i + n)).length ≤ n + _
      omega
    | p l =>
      have h1 := apl_len t ws i
      show (_ ++ _ : List Nat).length ≤ l.length + _
      rw [List.length_append]
      omega
theorem taken_vol : ∀ ws : List Wd, taken ws ≤ vol ws
  | [] => Nat.le_refl _
  | w :: ws => by
    have h := taken_vol ws
    unfold taken vol at *
    rw [List.map_cons, List.sum_cons, List.map_cons, List.sum_cons]
    have : takW w ≤ volW w := by cases w <;> simp [takW, volW]
    omega
end Ed
/-! ## edits sign by sign -/
namespace Ed
inductive Op where
  | k | d | p (c : Nat)
  deriving DecidableEq
def stepO (s : PS) : Op → PS
  | .k => s.keep 1
  | .d => s.drop 1
  | .p c => s.put [c]
def PO (ops : List Op) : PS := ops.foldl stepO PS.nil
def opsW : Wd → List Op
  | .k n => List.replicate n .k
  | .d n => List.replicate n .d
  | .p l => l.map .p
def opsOf (ws : List Wd) : List Op := ws.flatMap opsW
inductive It2 where
  | old (i : Nat) | new (c : Nat)
  deriving DecidableEq
/-- what is left, sign by sign -/
def iof : List Op → Nat → List It2
  | [], _ => []
  | .k :: r, i => .old i :: iof r (i + 1)
  | .d :: r, i => iof r (i + 1)
  | .p c :: r, i => .new c :: iof r i
/-- how many signs are taken -/
def tk : List Op → Nat
  | [] => 0
  | .k :: r => tk r + 1
  | .d :: r => tk r + 1
  | .p _ :: r => tk r
def costO : List Op → Nat
  | [] => 0
  | .k :: r => costO r
  | .d :: r => costO r + 1
  | .p _ :: r => costO r + 1
def leftO : List Op → Nat
  | [] => 0
  | .k :: r => leftO r + 1
  | .d :: r => leftO r
  | .p _ :: r => leftO r + 1
theorem tk_app : ∀ (a b : List Op), tk (a ++ b) = tk a + tk b
  | [], b => (Nat.zero_add _).symm
  | .k :: r, b => by show tk (r ++ b) + 1 = tk r + 1 + tk b; rw [tk_app r b]; omega
  | .d :: r, b => by show tk (r ++ b) + 1 = tk r + 1 + tk b; rw [tk_app r b]; omega
  | .p _ :: r, b => by show tk (r ++ b) = tk r + tk b; rw [tk_app r b]
theorem costO_app : ∀ (a b : List Op), costO (a ++ b) = costO a + costO b
  | [], b => (Nat.zero_add _).symm
  | .k :: r, b => by show costO (r ++ b) = costO r + costO b; rw [costO_app r b]
  | .d :: r, b => by show costO (r ++ b) + 1 = costO r + 1 + costO b; rw [costO_app r b]; omega
  | .p _ :: r, b => by show costO (r ++ b) + 1 = costO r + 1 + costO b; rw [costO_app r b]; omega
theorem leftO_app : ∀ (a b : List Op), leftO (a ++ b) = leftO a + leftO b
  | [], b => (Nat.zero_add _).symm
  | .k :: r, b => by show leftO (r ++ b) + 1 = leftO r + 1 + leftO b; rw [leftO_app r b]; omega
  | .d :: r, b => by show leftO (r ++ b) = leftO r + leftO b; rw [leftO_app r b]
  | .p _ :: r, b => by show leftO (r ++ b) + 1 = leftO r + 1 + leftO b; rw [leftO_app r b]; omega
theorem iof_app : ∀ (a b : List Op) (i : Nat), iof (a ++ b) i = iof a i ++ iof b (i + tk a)
  | [], b, i => rfl
  | .k :: r, b, i => by
    show It2.old i :: iof (r ++ b) (i + 1) = It2.old i :: (iof r (i + 1) ++ iof b (i + (tk r + 1)))
    rw [iof_app r b, show i + (tk r + 1) = i + 1 + tk r by omega]
  | .d :: r, b, i => by
    show iof (r ++ b) (i + 1) = iof r (i + 1) ++ iof b (i + (tk r + 1))
    rw [iof_app r b, show i + (tk r + 1) = i + 1 + tk r by omega]
  | .p c :: r, b, i => by
    show It2.new c :: iof (r ++ b) i = It2.new c :: (iof r i ++ iof b (i + tk r))
    rw [iof_app r b]
theorem iof_len : ∀ (a : List Op) (i : Nat), (iof a i).length = leftO a
  | [], _ => rfl
  | .k :: r, i => by show (iof r (i + 1)).length + 1 = leftO r + 1; rw [iof_len r]
  | .d :: r, i => iof_len r (i + 1)
  | .p c :: r, i => by show (iof r i).length + 1 = leftO r + 1; rw [iof_len r]
theorem tk_k (n : Nat) : tk (List.replicate n Op.k) = n := by
  induction n with
  | zero => rfl
  | succ n ih => rw [List.replicate_succ]; show tk _ + 1 = _; rw [ih]
theorem tk_d (n : Nat) : tk (List.replicate n Op.d) = n := by
  induction n with
  | zero => rfl
  | succ n ih => rw [List.replicate_succ]; show tk _ + 1 = _; rw [ih]
theorem tk_p (l : List Nat) : tk (l.map Op.p) = 0 := by
  induction l with
  | nil => rfl
  | cons a r ih => exact ih
theorem cost_k (n : Nat) : costO (List.replicate n Op.k) = 0 := by
  induction n with
  | zero => rfl
  | succ n ih => rw [List.replicate_succ]; exact ih
theorem cost_d (n : Nat) : costO (List.replicate n Op.d) = n := by
  induction n with
  | zero => rfl
  | succ n ih => rw [List.replicate_succ]; show costO _ + 1 = _; rw [ih]
theorem cost_p (l : List Nat) : costO (l.map Op.p) = l.length := by
  induction l with
  | nil => rfl
  | cons a r ih => show costO _ + 1 = r.length + 1; rw [ih]
theorem left_k (n : Nat) : leftO (List.replicate n Op.k) = n := by
  induction n with
  | zero => rfl
  | succ n ih => rw [List.replicate_succ]; show leftO _ + 1 = _; rw [ih]
theorem left_d (n : Nat) : leftO (List.replicate n Op.d) = 0 := by
  induction n with
  | zero => rfl
  | succ n ih => rw [List.replicate_succ]; exact ih
theorem left_p (l : List Nat) : leftO (l.map Op.p) = l.length := by
  induction l with
  | nil => rfl
  | cons a r ih => show leftO _ + 1 = r.length + 1; rw [ih]
theorem tk_opsW (w : Wd) : tk (opsW w) = takW w := by
  cases w with
  | k n => exact tk_k n
  | d n => exact tk_d n
  | p l => exact tk_p l
theorem cost_opsW (w : Wd) : costO (opsW w) = cosW w := by
  cases w with
  | k n => exact cost_k n
  | d n => exact cost_d n
  | p l => exact cost_p l
theorem left_opsW (w : Wd) : leftO (opsW w) = lefW w := by
  cases w with
  | k n => exact left_k n
  | d n => exact left_d n
  | p l => exact left_p l
theorem opsOf_cons (w : Wd) (ws : List Wd) : opsOf (w :: ws) = opsW w ++ opsOf ws := List.flatMap_cons
theorem opsOf_app (a b : List Wd) : opsOf (a ++ b) = opsOf a ++ opsOf b := List.flatMap_append
theorem tk_opsOf : ∀ ws : List Wd, tk (opsOf ws) = taken ws
  | [] => rfl
  | w :: ws => by
    rw [opsOf_cons, tk_app, tk_opsW, tk_opsOf ws]
    unfold taken
    rw [List.map_cons, List.sum_cons]
theorem cost_opsOf : ∀ ws : List Wd, costO (opsOf ws) = costs ws
  | [] => rfl
  | w :: ws => by
    rw [opsOf_cons, costO_app, cost_opsW, cost_opsOf ws]
    unfold costs
    rw [List.map_cons, List.sum_cons]
theorem left_opsOf : ∀ ws : List Wd, leftO (opsOf ws) = lefts ws
  | [] => rfl
  | w :: ws => by
    rw [opsOf_cons, leftO_app, left_opsW, left_opsOf ws]
    unfold lefts
    rw [List.map_cons, List.sum_cons]
/-! words done sign by sign -/
theorem gap_keep (s : PS) (n : Nat) : (s.keep n).gap = s.keep n := by
  unfold PS.keep PS.gap
  by_cases h : s.d = 0 ∧ s.f = []
  · rw [if_pos h]
    simp only
    rw [if_pos h]
  · rw [if_neg h]
    exact if_pos ⟨rfl, rfl⟩
theorem keep_keep (s : PS) (m n : Nat) : (s.keep m).keep n = s.keep (m + n) := by
  show { (s.keep m).gap with k := (s.keep m).gap.k + n } = _
  rw [gap_keep]
  unfold PS.keep
  simp only [Nat.add_assoc]
theorem fold_keep : ∀ (n : Nat) (s : PS), (List.replicate (n + 1) Op.k).foldl stepO s = s.keep (n + 1)
  | 0, s => rfl
  | n + 1, s => by
    rw [List.replicate_succ, List.foldl_cons, fold_keep n]
    show (s.keep 1).keep (n + 1) = _
    rw [keep_keep, Nat.add_comm 1]
theorem fold_drop : ∀ (n : Nat) (s : PS), (List.replicate n Op.d).foldl stepO s = s.drop n
  | 0, s => rfl
  | n + 1, s => by
    rw [List.replicate_succ, List.foldl_cons, fold_drop n]
    show (s.drop 1).drop n = _
    unfold PS.drop
    simp only [Nat.add_assoc, Nat.add_comm 1 n]
theorem fold_put : ∀ (l : List Nat) (s : PS), (l.map Op.p).foldl stepO s = s.put l
  | [], s => by
    show s = s.put []
    unfold PS.put
    rw [List.append_nil]
  | c :: l, s => by
    rw [List.map_cons, List.foldl_cons, fold_put l]
    show (s.put [c]).put l = _
    unfold PS.put
    simp only [List.append_assoc, List.singleton_append]
/-- a word that does something -/
def pos : Wd → Prop
  | .k n => 1 ≤ n
  | .d n => 1 ≤ n
  | .p l => l ≠ []
theorem pos_of {a : List Nat} {w : Wd} (h : okW a w) : pos w := by
  cases w with
  | k n => exact h.1
  | d n => exact h.1
  | p l => exact h.1
theorem fold_word {w : Wd} (h : pos w) (s : PS) : (opsW w).foldl stepO s = stepW s w := by
  cases w with
  | k n =>
    cases n with
    | zero => exact absurd h (by show ¬ 1 ≤ 0; omega)
    | succ n => exact fold_keep n s
  | d n => exact fold_drop n s
  | p l => exact fold_put l s
theorem fold_words : ∀ (ws : List Wd) (s : PS), (∀ w ∈ ws, pos w) → (opsOf ws).foldl stepO s = ws.foldl stepW s
  | [], s, _ => rfl
  | w :: ws, s, h => by
    rw [opsOf_cons, List.foldl_append, fold_word (h w List.mem_cons_self), List.foldl_cons]
    exact fold_words ws _ fun x hx => h x (List.mem_cons_of_mem _ hx)
theorem plainS_ops (ws : List Wd) (h : ∀ w ∈ ws, pos w) : plainS ws = PO (opsOf ws) := (fold_words ws PS.nil h).symm
theorem PO_snoc (ops : List Op) (o : Op) : PO (ops ++ [o]) = stepO (PO ops) o := by
  unfold PO
  rw [List.foldl_append]
  rfl
/-! what a state has told so far, its pending signs too -/
theorem opsOf_close (s : PS) : opsOf s.close.ws = opsOf s.ws ++ List.replicate s.k .k ++ List.replicate s.d .d ++ s.f.map .p := by
  unfold PS.close
  simp only
  rw [opsOf_app, opsOf_app, opsOf_app]
  have h1 : opsOf (if s.k = 0 then [] else [Wd.k s.k]) = List.replicate s.k .k := by
    split
    · rename_i h; rw [h]; rfl
    · rw [opsOf_cons]; simp [opsOf, opsW]
  have h2 : opsOf (if s.d = 0 then [] else [Wd.d s.d]) = List.replicate s.d .d := by
    split
    · rename_i h; rw [h]; rfl
    · rw [opsOf_cons]; simp [opsOf, opsW]
  have h3 : opsOf (if s.f = [] then [] else [Wd.p s.f]) = s.f.map .p := by
    split
    · rename_i h; rw [h]; rfl
    · rw [opsOf_cons]; simp [opsOf, opsW]
  rw [h1, h2, h3]
def opsP (s : PS) : List Op := opsOf s.ws ++ List.replicate s.k .k ++ List.replicate s.d .d ++ s.f.map .p
theorem opsP_gap (s : PS) : opsP s.gap = opsP s := by
  unfold PS.gap
  split
  · rfl
  · unfold opsP
    rw [opsOf_close]
    unfold PS.close
    simp
theorem gap_df (s : PS) : s.gap.d = 0 ∧ s.gap.f = [] := by
  unfold PS.gap
  split
  · rename_i h; exact h
  · exact ⟨rfl, rfl⟩
theorem opsP_keep (s : PS) : opsP (s.keep 1) = opsP s ++ [.k] := by
  obtain ⟨h1, h2⟩ := gap_df s
  have e : opsP (s.keep 1) = opsP s.gap ++ [.k] := by
    unfold opsP PS.keep
    simp only [h1, h2, List.replicate_zero, List.map_nil, List.append_nil]
    rw [List.replicate_succ', List.append_assoc]
  rw [e, opsP_gap]
/-- dropped and put signs of a gap may change their order -/
theorem iof_dp (x : List Op) (n : Nat) (l : List Nat) (i : Nat) : iof (x ++ List.replicate n .d ++ l.map .p) i = iof (x ++ l.map .p ++ List.replicate n .d) i := by
  have hp : ∀ (l : List Nat) (i : Nat), iof (l.map Op.p) i = l.map .new := by
    intro l
    induction l with
    | nil => intro i; rfl
    | cons a r ih => intro i; show It2.new a :: iof (r.map .p) i = It2.new a :: r.map .new; rw [ih]
  have hd : ∀ (n i : Nat), iof (List.replicate n Op.d) i = [] := by
    intro n
    induction n with
    | zero => intro i; rfl
    | succ n ih => intro i; rw [List.replicate_succ]; exact ih (i + 1)
  rw [iof_app, iof_app, iof_app, iof_app, hp, hd, hp, hd]
  simp
theorem iof_close : ∀ (ops : List Op), iof (opsP (PO ops)) 0 = iof ops 0 ∧ tk (opsP (PO ops)) = tk ops ∧ costO (opsP (PO ops)) = costO ops ∧ leftO (opsP (PO ops)) = leftO ops := by
  intro ops
  have h : ∀ (n : Nat) (ops : List Op), ops.length = n → iof (opsP (PO ops)) 0 = iof ops 0 ∧ tk (opsP (PO ops)) = tk ops ∧ costO (opsP (PO ops)) = costO ops ∧ leftO (opsP (PO ops)) = leftO ops := by
    intro n
    induction n with
    | zero =>
      intro ops h
      rw [List.eq_nil_of_length_eq_zero h]
      exact ⟨rfl, rfl, rfl, rfl⟩
    | succ n ih =>
      intro ops h
      rcases List.eq_nil_or_concat ops with rfl | ⟨r, o, rfl⟩
      · simp at h
      · obtain ⟨i1, i2, i3, i4⟩ := ih r (by simpa using h)
        rw [List.concat_eq_append, PO_snoc, iof_app, tk_app, costO_app, leftO_app]
        cases o with
        | k =>
          show iof (opsP ((PO r).keep 1)) 0 = _ ∧ tk (opsP ((PO r).keep 1)) = _ ∧ costO (opsP ((PO r).keep 1)) = _ ∧ leftO (opsP ((PO r).keep 1)) = _
          rw [opsP_keep, iof_app, tk_app, costO_app, leftO_app, i1, i2, i3, i4]
          exact ⟨rfl, rfl, rfl, rfl⟩
        | d =>
          show iof (opsP ((PO r).drop 1)) 0 = _ ∧ tk (opsP ((PO r).drop 1)) = _ ∧ costO (opsP ((PO r).drop 1)) = _ ∧ leftO (opsP ((PO r).drop 1)) = _
          have e1 : iof (opsP ((PO r).drop 1)) 0 = iof (opsP (PO r) ++ [.d]) 0 := by
            unfold opsP PS.drop
            simp only
            rw [iof_dp, List.replicate_succ', iof_app _ [Op.d], ← List.append_assoc, iof_app _ [Op.d], ← iof_dp]
            show _ ++ [] = _ ++ []
            rfl
          have e2 : ∀ f : List Op → Nat, (∀ a b, f (a ++ b) = f a + f b) → f (opsP ((PO r).drop 1)) = f (opsP (PO r)) + f [.d] := by
            intro f hf
            unfold opsP PS.drop
            simp only
            rw [List.replicate_succ']
            simp only [hf]
            omega
          rw [e1, e2 tk tk_app, e2 costO costO_app, e2 leftO leftO_app, iof_app, i1, i2, i3, i4]
          exact ⟨rfl, rfl, rfl, rfl⟩
        | p c =>
          show iof (opsP ((PO r).put [c])) 0 = _ ∧ tk (opsP ((PO r).put [c])) = _ ∧ costO (opsP ((PO r).put [c])) = _ ∧ leftO (opsP ((PO r).put [c])) = _
          have e : opsP ((PO r).put [c]) = opsP (PO r) ++ [.p c] := by
            unfold opsP PS.put
            simp only [List.map_append, List.map_cons, List.map_nil, List.append_assoc]
          rw [e, iof_app, tk_app, costO_app, leftO_app, i1, i2, i3, i4]
          exact ⟨rfl, rfl, rfl, rfl⟩
  exact h ops.length ops rfl
theorem told_ops (ops : List Op) : opsOf (PO ops).told = opsP (PO ops) := opsOf_close _
theorem told_items (ops : List Op) : iof (opsOf (PO ops).told) 0 = iof ops 0 := by rw [told_ops]; exact (iof_close ops).1
theorem told_taken (ops : List Op) : taken (PO ops).told = tk ops := by rw [← tk_opsOf, told_ops]; exact (iof_close ops).2.1
theorem told_costs (ops : List Op) : costs (PO ops).told = costO ops := by rw [← cost_opsOf, told_ops]; exact (iof_close ops).2.2.1
theorem told_lefts (ops : List Op) : lefts (PO ops).told = leftO ops := by rw [← left_opsOf, told_ops]; exact (iof_close ops).2.2.2
/-- every word told does something -/
theorem close_pos (s : PS) (h : ∀ w ∈ s.ws, pos w) : ∀ w ∈ s.close.ws, pos w := by
  intro w hw
  unfold PS.close at hw
  simp only [List.mem_append] at hw
  rcases hw with ((hw | hw) | hw) | hw
  · exact h w hw
  · split at hw
    · cases hw
    · simp at hw; subst hw; show 1 ≤ s.k; omega
  · split at hw
    · cases hw
    · simp at hw; subst hw; show 1 ≤ s.d; omega
  · split at hw
    · cases hw
    · rename_i h2
      simp at hw
      subst hw
      exact h2
theorem gap_pos (s : PS) (h : ∀ w ∈ s.ws, pos w) : ∀ w ∈ s.gap.ws, pos w := by
  unfold PS.gap
  split
  · exact h
  · exact close_pos s h
theorem fold_pos : ∀ (ops : List Op) (s : PS), (∀ w ∈ s.ws, pos w) → ∀ w ∈ (ops.foldl stepO s).ws, pos w
  | [], s, h => h
  | o :: r, s, h => by
    rw [List.foldl_cons]
    refine fold_pos r _ ?_
    cases o with
    | k => exact gap_pos s h
    | d => exact h
    | p c => exact h
theorem told_pos (ops : List Op) : ∀ w ∈ (PO ops).told, pos w := close_pos _ (fold_pos ops PS.nil fun w hw => by cases hw)
/-- the letters of what is told are those put -/
theorem opsW_in {w : Wd} {c : Nat} (h : Op.p c ∈ opsW w) : ∃ l, w = .p l ∧ c ∈ l := by
  cases w with
  | k n => exact absurd (List.eq_of_mem_replicate h) (by intro e; cases e)
  | d n => exact absurd (List.eq_of_mem_replicate h) (by intro e; cases e)
  | p l =>
    obtain ⟨x, hx, e⟩ := List.mem_map.mp h
    cases e
    exact ⟨l, rfl, hx⟩
/-! the law's own plain edit of items -/
structure PT where
  ws : List Wd
  at' : Nat
  f : List Nat
  k : Nat
def flushT (q : PT) (v : Nat) : List Wd := q.ws ++ (if q.k = 0 then [] else [.k q.k]) ++ (if v - q.at' = 0 then [] else [.d (v - q.at')]) ++ (if q.f = [] then [] else [.p q.f])
def stepI (many : Nat) (q : PT) : It2 → PT
  | .new c => { q with f := q.f ++ [c] }
  | .old v =>
    if v > q.at' ∨ q.f ≠ [] then ⟨flushT q v, v + 1, [], 0 + (if v < many then 1 else 0)⟩ else { q with k := q.k + (if v < many then 1 else 0), at' := v + 1 }
def ptI (many : Nat) (its : List It2) : PT := its.foldl (stepI many) ⟨[], 0, [], 0⟩
def ptold (its : List It2) (many : Nat) : List Wd := (ptI many (its ++ [.old many])).ws ++ (if (ptI many (its ++ [.old many])).k = 0 then [] else [.k (ptI many (its ++ [.old many])).k])
/-- the two states beside one another: what is dropped in one is the distance in the other -/
structure Sim (s : PS) (q : PT) (at' : Nat) : Prop where
  ws : q.ws = s.ws
  f : q.f = s.f
  k : q.k = s.k
  dd : q.at' + s.d = at'
theorem sim_close (s : PS) (q : PT) (n : Nat) (h : Sim s q n) : flushT q n = s.close.ws := by
  unfold flushT PS.close
  simp only
  have e : n - q.at' = s.d := by have := h.dd; omega
  rw [h.ws, h.f, h.k, e]
theorem sim_fold (many : Nat) : ∀ (ops : List Op) (s : PS) (q : PT) (n : Nat), Sim s q n → n + tk ops ≤ many → Sim (ops.foldl stepO s) ((iof ops n).foldl (stepI many) q) (n + tk ops)
  | [], s, q, n, h, _ => h
  | .d :: r, s, q, n, h, hm => by
    have hm' : n + (tk r + 1) ≤ many := hm
    have := sim_fold many r (s.drop 1) q (n + 1) ⟨h.ws, h.f, h.k, by have := h.dd; show q.at' + (s.d + 1) = n + 1; omega⟩ (by omega)
    rw [show n + tk (Op.d :: r) = n + 1 + tk r by show n + (tk r + 1) = _; omega]
    exact this
  | .p c :: r, s, q, n, h, hm => sim_fold many r (s.put [c]) (stepI many q (.new c)) n ⟨h.ws, by show q.f ++ [c] = s.f ++ [c]; rw [h.f], h.k, h.dd⟩ hm
  | .k :: r, s, q, n, h, hm => by
    have hm' : n + (tk r + 1) ≤ many := hm
    rw [show n + tk (Op.k :: r) = n + 1 + tk r by show n + (tk r + 1) = _; omega]
    refine sim_fold many r (s.keep 1) (stepI many q (.old n)) (n + 1) ?_ (by omega)
    show Sim (s.keep 1) (if n > q.at' ∨ q.f ≠ [] then _ else _) (n + 1)
    have hdd := h.dd
    by_cases hc : n > q.at' ∨ q.f ≠ []
    · rw [if_pos hc, if_pos (show n < many by omega)]
      have hg : s.gap = s.close := if_neg fun ⟨e1, e2⟩ => by
        rcases hc with hc | hc
        · omega
        · exact hc (h.f.trans e2)
      exact ⟨by show flushT q n = s.gap.ws; rw [hg]; exact sim_close s q n h, by show [] = s.gap.f; rw [hg]; rfl, by show 0 + 1 = s.gap.k + 1; rw [hg]; rfl, by show n + 1 + s.gap.d = n + 1; rw [hg]; rfl⟩
    · rw [if_neg hc, if_pos (show n < many by omega)]
      have hd : s.d = 0 := by
        have : ¬ n > q.at' := fun e => hc (.inl e)
        omega
      have hf : s.f = [] := by
        have : ¬ q.f ≠ [] := fun e => hc (.inr e)
        rw [← h.f]
        exact Classical.byContradiction this
      have hg : s.gap = s := if_pos ⟨hd, hf⟩
      exact ⟨by show q.ws = s.gap.ws; rw [hg]; exact h.ws, by show q.f = s.gap.f; rw [hg]; exact h.f, by show q.k + 1 = s.gap.k + 1; rw [hg, h.k], by show n + 1 + s.gap.d = n + 1; rw [hg, hd]⟩
theorem ptold_eq (ops : List Op) : ptold (iof ops 0) (tk ops) = (PO ops).told := by
  have h := sim_fold (tk ops) ops PS.nil ⟨[], 0, [], 0⟩ 0 ⟨rfl, rfl, rfl, rfl⟩ (by omega)
  rw [Nat.zero_add] at h
  have e : ptI (tk ops) (iof ops 0 ++ [.old (tk ops)]) = stepI (tk ops) ((iof ops 0).foldl (stepI (tk ops)) ⟨[], 0, [], 0⟩) (.old (tk ops)) := by
    unfold ptI
    rw [List.foldl_append]
    rfl
  unfold ptold
  rw [e]
  show (stepI (tk ops) _ (.old (tk ops))).ws ++ _ = (PO ops).close.ws
  have h' : Sim (PO ops) ((iof ops 0).foldl (stepI (tk ops)) ⟨[], 0, [], 0⟩) (tk ops) := h
  revert h'
  generalize (iof ops 0).foldl (stepI (tk ops)) ⟨[], 0, [], 0⟩ = q
  intro h'
  show (if tk ops > q.at' ∨ q.f ≠ [] then (⟨flushT q (tk ops), tk ops + 1, [], 0 + (if tk ops < tk ops then 1 else 0)⟩ : PT) else { q with k := q.k + (if tk ops < tk ops then 1 else 0), at' := tk ops + 1 }).ws ++ (if (if tk ops > q.at' ∨ q.f ≠ [] then (⟨flushT q (tk ops), tk ops + 1, [], 0 + (if tk ops < tk ops then 1 else 0)⟩ : PT) else { q with k := q.k + (if tk ops < tk ops then 1 else 0), at' := tk ops + 1 }).k = 0 then [] else [Wd.k (if tk ops > q.at' ∨ q.f ≠ [] then (⟨flushT q (tk ops), tk ops + 1, [], 0 + (if tk ops < tk ops then 1 else 0)⟩ : PT) else { q with k := q.k + (if tk ops < tk ops then 1 else 0), at' := tk ops + 1 }).k]) = _
  by_cases hc : tk ops > q.at' ∨ q.f ≠ []
  · rw [if_pos hc, if_neg (Nat.lt_irrefl _)]
    show flushT q (tk ops) ++ [] = _
    rw [List.append_nil]
    exact sim_close _ q _ h'
  · rw [if_neg hc, if_neg (Nat.lt_irrefl _)]
    have hd : (PO ops).d = 0 := by
      have := h'.dd
      have : ¬ tk ops > q.at' := fun e => hc (.inl e)
      omega
    have hf : (PO ops).f = [] := by
      rw [← h'.f]
      exact Classical.byContradiction fun e => hc (.inr e)
    show q.ws ++ (if q.k + 0 = 0 then [] else [Wd.k (q.k + 0)]) = _
    unfold PS.close
    simp only
    rw [hd, hf, h'.ws, h'.k]
    simp
end Ed
/-! ## least edits -/
namespace Ed
def edIn (x : Nat) (f : List Nat → Nat) (n : Nat) : List Nat → Nat
  | [] => n + 1
  | y :: b => if x = y then f b else 1 + min (f (y :: b)) (edIn x f n b)
def ed : List Nat → List Nat → Nat
  | [] => fun b => b.length
  | x :: a => edIn x (ed a) a.length
def lcIn (x : Nat) (f : List Nat → Nat) : List Nat → Nat
  | [] => 0
  | y :: b => if x = y then 1 + f b else max (f (y :: b)) (lcIn x f b)
def lc : List Nat → List Nat → Nat
  | [] => fun _ => 0
  | x :: a => lcIn x (lc a)
theorem ed_nil (b : List Nat) : ed [] b = b.length := rfl
theorem ed_nil2 : ∀ a : List Nat, ed a [] = a.length
  | [] => rfl
  | _ :: _ => rfl
theorem ed_cons (x : Nat) (a : List Nat) (y : Nat) (b : List Nat) : ed (x :: a) (y :: b) = if x = y then ed a b else 1 + min (ed a (y :: b)) (ed (x :: a) b) := rfl
theorem lc_nil (b : List Nat) : lc [] b = 0 := rfl
theorem lc_nil2 : ∀ a : List Nat, lc a [] = 0
  | [] => rfl
  | _ :: _ => rfl
theorem lc_cons (x : Nat) (a : List Nat) (y : Nat) (b : List Nat) : lc (x :: a) (y :: b) = if x = y then 1 + lc a b else max (lc a (y :: b)) (lc (x :: a) b) := rfl
theorem ed_lc : ∀ (a b : List Nat), ed a b + 2 * lc a b = a.length + b.length
  | [], b => by rw [ed_nil, lc_nil]; simp
  | x :: a, [] => by rw [ed_nil2, lc_nil2]; simp
  | x :: a, y :: b => by
    have h1 := ed_lc a b
    have h2 := ed_lc a (y :: b)
    have h3 := ed_lc (x :: a) b
    rw [ed_cons, lc_cons]
    simp only [List.length_cons] at *
    by_cases h : x = y
    · rw [if_pos h, if_pos h]
      omega
    · rw [if_neg h, if_neg h]
      omega
theorem ed_comm : ∀ (a b : List Nat), ed a b = ed b a
  | [], b => by rw [ed_nil, ed_nil2]
  | x :: a, [] => by rw [ed_nil, ed_nil2]
  | x :: a, y :: b => by
    rw [ed_cons, ed_cons, ed_comm a b, ed_comm a (y :: b), ed_comm (x :: a) b]
    by_cases h : x = y
    · rw [if_pos h, if_pos h.symm]
    · rw [if_neg h, if_neg (Ne.symm h), Nat.min_comm]
def lwIn (x : Nat) (a : List Nat) (f : List Nat → List Op) : List Nat → List Op
  | [] => .d :: f []
  | y :: b => if x = y then .k :: f b else if ed (x :: a) (y :: b) = 1 + ed a (y :: b) then .d :: f (y :: b) else .p y :: lwIn x a f b
def lw : List Nat → List Nat → List Op
  | [] => fun b => b.map .p
  | x :: a => lwIn x a (lw a)
theorem lw_nil (b : List Nat) : lw [] b = b.map .p := rfl
theorem lw_nil2 (x : Nat) (a : List Nat) : lw (x :: a) [] = .d :: lw a [] := rfl
theorem lw_cons (x : Nat) (a : List Nat) (y : Nat) (b : List Nat) : lw (x :: a) (y :: b) = if x = y then .k :: lw a b else if ed (x :: a) (y :: b) = 1 + ed a (y :: b) then .d :: lw a (y :: b) else .p y :: lw (x :: a) b := rfl
theorem lw_tk : ∀ (a b : List Nat), tk (lw a b) = a.length ∧ leftO (lw a b) = b.length ∧ costO (lw a b) = ed a b
  | [], b => by rw [lw_nil, tk_p, left_p, cost_p]; exact ⟨rfl, rfl, rfl⟩
  | x :: a, [] => by
    obtain ⟨h1, h2, h3⟩ := lw_tk a []
    rw [lw_nil2]
    refine ⟨?_, ?_, ?_⟩
    · show tk _ + 1 = _; rw [h1]; rfl
    · exact h2
    · show costO _ + 1 = _; rw [h3, ed_nil2, ed_nil2]; rfl
  | x :: a, y :: b => by
    obtain ⟨p1, p2, p3⟩ := lw_tk a b
    obtain ⟨q1, q2, q3⟩ := lw_tk a (y :: b)
    obtain ⟨r1, r2, r3⟩ := lw_tk (x :: a) b
    rw [lw_cons]
    by_cases h : x = y
    · rw [if_pos h]
      refine ⟨?_, ?_, ?_⟩
      · show tk _ + 1 = _; rw [p1]; rfl
      · show leftO _ + 1 = _; rw [p2]; rfl
      · rw [ed_cons, if_pos h]; exact p3
    · rw [if_neg h]
      by_cases h2 : ed (x :: a) (y :: b) = 1 + ed a (y :: b)
      · rw [if_pos h2]
        refine ⟨?_, ?_, ?_⟩
        · show tk _ + 1 = _; rw [q1]; rfl
        · exact q2
        · show costO _ + 1 = _; rw [q3, h2]; omega
      · rw [if_neg h2]
        refine ⟨?_, ?_, ?_⟩
        · exact r1
        · show leftO _ + 1 = _; rw [r2]; rfl
        · show costO _ + 1 = _
          rw [r3]
          rw [ed_cons, if_neg h] at h2 ⊢
          omega
/-- what is put comes out of the second text -/
theorem lw_in : ∀ (a b : List Nat) (c : Nat), Op.p c ∈ lw a b → c ∈ b
  | [], b, c, h => by
    obtain ⟨x, hx, e⟩ := List.mem_map.mp h
    cases e
    exact hx
  | x :: a, [], c, h => by
    rw [lw_nil2] at h
    rcases List.mem_cons.mp h with e | h
    · cases e
    · exact lw_in a [] c h
  | x :: a, y :: b, c, h => by
    rw [lw_cons] at h
    split at h
    · rcases List.mem_cons.mp h with e | h
      · cases e
      · exact List.mem_cons_of_mem _ (lw_in a b c h)
    · split at h
      · rcases List.mem_cons.mp h with e | h
        · cases e
        · exact lw_in a (y :: b) c h
      · rcases List.mem_cons.mp h with e | h
        · cases e
          exact List.mem_cons_self
        · exact List.mem_cons_of_mem _ (lw_in (x :: a) b c h)
/-- an item read -/
def dr (t : List Nat) : It2 → List Nat
  | .old j => (t.drop j).take 1
  | .new c => [c]
def outI (t : List Nat) (its : List It2) : List Nat := its.flatMap (dr t)
theorem outI_app (t : List Nat) (a b : List It2) : outI t (a ++ b) = outI t a ++ outI t b := List.flatMap_append
theorem outI_cons (t : List Nat) (a : It2) (b : List It2) : outI t (a :: b) = dr t a ++ outI t b := List.flatMap_cons
theorem iof_k_out (t : List Nat) : ∀ (n i : Nat), outI t (iof (List.replicate n .k) i) = (t.drop i).take n
  | 0, i => by simp [iof, outI]
  | n + 1, i => by
    rw [List.replicate_succ]
    show outI t (It2.old i :: iof (List.replicate n .k) (i + 1)) = _
    rw [outI_cons, iof_k_out t n (i + 1)]
    show (t.drop i).take 1 ++ _ = _
    have e : t.drop (i + 1) = (t.drop i).drop 1 := by rw [List.drop_drop]
    rw [e]
    cases t.drop i with
    | nil => simp
    | cons x r => simp
theorem apl_items (t : List Nat) : ∀ (ws : List Wd) (i : Nat), apl t ws i = outI t (iof (opsOf ws) i)
  | [], i => rfl
  | w :: ws, i => by
    rw [opsOf_cons, iof_app, outI_app, tk_opsW]
    cases w with
    | k n =>
      show _ ++ apl t ws (i + n) = outI t (iof (List.replicate n .k) i) ++ _
      rw [iof_k_out, apl_items t ws (i + n)]
      rfl
    | d n =>
      have hd : ∀ (n i : Nat), iof (List.replicate n Op.d) i = [] := by
        intro n
        induction n with
        | zero => intro i; rfl
        | succ n ih => intro i; rw [List.replicate_succ]; exact ih (i + 1)
      show apl t ws (i + n) = outI t (iof (List.replicate n .d) i) ++ _
      rw [hd, apl_items t ws (i + n)]
      rfl
    | p l =>
      have hp : ∀ (l : List Nat) (i : Nat), outI t (iof (l.map Op.p) i) = l := by
        intro l
        induction l with
        | nil => intro i; rfl
        | cons a r ih =>
          intro i
          show outI t (It2.new a :: iof (r.map .p) i) = a :: r
          rw [outI_cons, ih]
          rfl
      show l ++ apl t ws i = outI t (iof (l.map .p) i) ++ _
      rw [hp, apl_items t ws i]
      rfl
theorem lw_out : ∀ (a b pre : List Nat), outI (pre ++ a) (iof (lw a b) pre.length) = b
  | [], b, pre => by
    rw [lw_nil, List.append_nil]
    induction b with
    | nil => rfl
    | cons c r ih =>
      show outI pre (It2.new c :: iof (r.map .p) pre.length) = c :: r
      rw [outI_cons, ih]
      rfl
  | x :: a, [], pre => by
    rw [lw_nil2]
    have := lw_out a [] (pre ++ [x])
    rw [List.append_assoc, List.length_append] at this
    exact this
  | x :: a, y :: b, pre => by
    rw [lw_cons]
    by_cases h : x = y
    · rw [if_pos h]
      have := lw_out a b (pre ++ [x])
      rw [List.append_assoc, List.length_append] at this
      show outI _ (It2.old pre.length :: iof (lw a b) (pre.length + 1)) = y :: b
      rw [outI_cons]
      have e2 : dr (pre ++ x :: a) (It2.old pre.length) = [y] := by
        show ((pre ++ x :: a).drop pre.length).take 1 = [y]
        rw [List.drop_left, h]
        rfl
      rw [e2]
      exact congrArg (fun z => y :: z) this
    · rw [if_neg h]
      by_cases h2 : ed (x :: a) (y :: b) = 1 + ed a (y :: b)
      · rw [if_pos h2]
        have := lw_out a (y :: b) (pre ++ [x])
        rw [List.append_assoc, List.length_append] at this
        exact this
      · rw [if_neg h2]
        show outI _ (It2.new y :: iof (lw (x :: a) b) pre.length) = y :: b
        rw [outI_cons, lw_out (x :: a) b pre]
        rfl
/-! the edit back -/
def opsT (t : List Nat) : List Op → Nat → List Op
  | [], _ => []
  | .k :: r, i => .k :: opsT t r (i + 1)
  | .d :: r, i => ((t.drop i).take 1).map .p ++ opsT t r (i + 1)
  | .p _ :: r, i => .d :: opsT t r i
theorem opsT_app (t : List Nat) : ∀ (a b : List Op) (i : Nat), opsT t (a ++ b) i = opsT t a i ++ opsT t b (i + tk a)
  | [], b, i => rfl
  | .k :: r, b, i => by
    show Op.k :: opsT t (r ++ b) (i + 1) = Op.k :: (opsT t r (i + 1) ++ opsT t b (i + (tk r + 1)))
    rw [opsT_app t r b, show i + (tk r + 1) = i + 1 + tk r by omega]
  | .d :: r, b, i => by
    show _ ++ opsT t (r ++ b) (i + 1) = (_ ++ opsT t r (i + 1)) ++ opsT t b (i + (tk r + 1))
    rw [opsT_app t r b, show i + (tk r + 1) = i + 1 + tk r by omega, List.append_assoc]
  | .p c :: r, b, i => by
    show Op.d :: opsT t (r ++ b) i = Op.d :: (opsT t r i ++ opsT t b (i + tk r))
    rw [opsT_app t r b]
theorem opsT_k (t : List Nat) : ∀ (n i : Nat), opsT t (List.replicate n .k) i = List.replicate n .k
  | 0, _ => rfl
  | n + 1, i => by
    rw [List.replicate_succ]
    show Op.k :: opsT t _ (i + 1) = _
    rw [opsT_k t n]
theorem opsT_p (t : List Nat) : ∀ (l : List Nat) (i : Nat), opsT t (l.map .p) i = List.replicate l.length .d
  | [], _ => rfl
  | c :: l, i => by
    show Op.d :: opsT t (l.map .p) i = _
    rw [opsT_p t l, List.length_cons, List.replicate_succ]
theorem opsT_d (t : List Nat) : ∀ (n i : Nat), opsT t (List.replicate n .d) i = ((t.drop i).take n).map .p
  | 0, i => by simp [opsT]
  | n + 1, i => by
    rw [List.replicate_succ]
    show ((t.drop i).take 1).map .p ++ opsT t _ (i + 1) = _
    rw [opsT_d t n, ← List.map_append]
    have e : t.drop (i + 1) = (t.drop i).drop 1 := by rw [List.drop_drop]
    rw [e]
    cases t.drop i with
    | nil => simp
    | cons x r => simp
theorem foldT_ops (t : List Nat) : ∀ (ws : List Wd) (s : PS) (i : Nat), (∀ w ∈ ws, pos w) → (ws.foldl (stepT t) (s, i)).1 = (opsT t (opsOf ws) i).foldl stepO s
  | [], s, i, _ => rfl
  | w :: ws, s, i, h => by
    have hw := h w List.mem_cons_self
    have hr := fun x hx => h x (List.mem_cons_of_mem w hx)
    rw [List.foldl_cons, opsOf_cons, opsT_app, List.foldl_append, tk_opsW]
    cases w with
    | k n =>
      show (ws.foldl (stepT t) (s.keep n, i + n)).1 = _
      rw [foldT_ops t ws _ _ hr]
      show _ = (opsT t (opsOf ws) (i + n)).foldl stepO ((opsT t (List.replicate n .k) i).foldl stepO s)
      rw [opsT_k]
      have := fold_word (w := .k n) hw s
      rw [show opsW (.k n) = List.replicate n .k from rfl] at this
      rw [this]
      rfl
    | d n =>
      show (ws.foldl (stepT t) (s.put ((t.drop i).take n), i + n)).1 = _
      rw [foldT_ops t ws _ _ hr]
      show _ = (opsT t (opsOf ws) (i + n)).foldl stepO ((opsT t (List.replicate n .d) i).foldl stepO s)
      rw [opsT_d, fold_put]
    | p l =>
      show (ws.foldl (stepT t) (s.drop l.length, i)).1 = _
      rw [foldT_ops t ws _ _ hr]
      show _ = (opsT t (opsOf ws) i).foldl stepO ((opsT t (l.map .p) i).foldl stepO s)
      rw [opsT_p, fold_drop]
theorem turnS_ops (t : List Nat) (ws : List Wd) (h : ∀ w ∈ ws, pos w) : (turnS t ws).1 = PO (opsT t (opsOf ws) 0) := foldT_ops t ws PS.nil 0 h
theorem opsT_in (t : List Nat) : ∀ (ops : List Op) (i c : Nat), Op.p c ∈ opsT t ops i → c ∈ t
  | [], _, _, h => by cases h
  | .k :: r, i, c, h => by
    rcases List.mem_cons.mp h with e | h
    · cases e
    · exact opsT_in t r (i + 1) c h
  | .d :: r, i, c, h => by
    rcases List.mem_append.mp h with h | h
    · obtain ⟨x, hx, e⟩ := List.mem_map.mp h
      cases e
      exact List.mem_of_mem_drop (List.mem_of_mem_take hx)
    · exact opsT_in t r (i + 1) c h
  | .p _ :: r, i, c, h => by
    rcases List.mem_cons.mp h with e | h
    · cases e
    · exact opsT_in t r i c h
theorem opsT_tk (t : List Nat) : ∀ (ops : List Op) (i : Nat), i + tk ops = t.length → tk (opsT t ops i) = leftO ops ∧ leftO (opsT t ops i) = tk ops
  | [], _, _ => ⟨rfl, rfl⟩
  | .k :: r, i, h => by
    have h' : i + (tk r + 1) = t.length := h
    obtain ⟨h1, h2⟩ := opsT_tk t r (i + 1) (by omega)
    exact ⟨by show tk _ + 1 = leftO r + 1; rw [h1], by show leftO _ + 1 = tk r + 1; rw [h2]⟩
  | .d :: r, i, h => by
    have h' : i + (tk r + 1) = t.length := h
    obtain ⟨h1, h2⟩ := opsT_tk t r (i + 1) (by omega)
    refine ⟨?_, ?_⟩
    · show tk (((t.drop i).take 1).map .p ++ opsT t r (i + 1)) = leftO r
      rw [tk_app, tk_p, h1]
      omega
    · show leftO (((t.drop i).take 1).map .p ++ opsT t r (i + 1)) = tk r + 1
      rw [leftO_app, left_p, h2, List.length_take, List.length_drop]
      omega
  | .p _ :: r, i, h => by
    obtain ⟨h1, h2⟩ := opsT_tk t r i h
    exact ⟨by show tk _ + 1 = leftO r + 1; rw [h1], h2⟩
theorem back_out (t o : List Nat) : ∀ (ops : List Op) (i j : Nat), i + tk ops = t.length → o.drop j = outI t (iof ops i) → outI o (iof (opsT t ops i) j) = t.drop i
  | [], i, j, h, _ => by
    show [] = _
    have h' : i = t.length := h
    rw [h', List.drop_length]
  | .k :: r, i, j, h, ho => by
    have h' : i + (tk r + 1) = t.length := h
    show outI o (It2.old j :: iof (opsT t r (i + 1)) (j + 1)) = _
    have ho' : o.drop j = (t.drop i).take 1 ++ outI t (iof r (i + 1)) := ho
    have hi : i < t.length := by omega
    have e : t.drop i = t[i] :: t.drop (i + 1) := List.drop_eq_getElem_cons hi
    rw [e] at ho'
    have e2 : o.drop j = t[i] :: outI t (iof r (i + 1)) := ho'
    rw [outI_cons, back_out t o r (i + 1) (j + 1) (by omega) (by rw [show o.drop (j + 1) = (o.drop j).drop 1 by rw [List.drop_drop], e2]; rfl), e]
    show (o.drop j).take 1 ++ _ = _
    rw [e2]
    rfl
  | .d :: r, i, j, h, ho => by
    have h' : i + (tk r + 1) = t.length := h
    have hi : i < t.length := by omega
    have e : t.drop i = t[i] :: t.drop (i + 1) := List.drop_eq_getElem_cons hi
    show outI o (iof (((t.drop i).take 1).map .p ++ opsT t r (i + 1)) j) = _
    rw [e]
    show outI o (It2.new t[i] :: iof (opsT t r (i + 1)) j) = _
    rw [outI_cons, back_out t o r (i + 1) j (by omega) ho]
    rfl
  | .p c :: r, i, j, h, ho => by
    show outI o (iof (opsT t r i) (j + 1)) = _
    have ho' : o.drop j = c :: outI t (iof r i) := ho
    exact back_out t o r i (j + 1) h (by rw [show o.drop (j + 1) = (o.drop j).drop 1 by rw [List.drop_drop], ho']; rfl)
/-! what is told is an edit over the signs -/
theorem fold_in (P : Nat → Prop) : ∀ (ops : List Op) (s : PS), (∀ c, Op.p c ∈ ops → P c) → (∀ l, Wd.p l ∈ s.ws → ∀ c ∈ l, P c) → (∀ c ∈ s.f, P c) → (∀ l, Wd.p l ∈ (ops.foldl stepO s).ws → ∀ c ∈ l, P c) ∧ ∀ c ∈ (ops.foldl stepO s).f, P c
  | [], s, _, h1, h2 => ⟨h1, h2⟩
  | o :: r, s, ho, h1, h2 => by
    rw [List.foldl_cons]
    have hc : (∀ l, Wd.p l ∈ s.close.ws → ∀ c ∈ l, P c) := by
      intro l hl
      unfold PS.close at hl
      simp only [List.mem_append] at hl
      rcases hl with ((hl | hl) | hl) | hl
      · exact h1 l hl
      · split at hl
        · cases hl
        · simp at hl
      · split at hl
        · cases hl
        · simp at hl
      · split at hl
        · cases hl
        · simp at hl
          subst hl
          exact h2
    refine fold_in P r _ (fun c hcr => ho c (List.mem_cons_of_mem _ hcr)) ?_ ?_
    · cases o with
      | k =>
        show ∀ l, Wd.p l ∈ s.gap.ws → _
        unfold PS.gap
        split
        · exact h1
        · exact hc
      | d => exact h1
      | p c => exact h1
    · cases o with
      | k =>
        show ∀ c ∈ s.gap.f, P c
        unfold PS.gap
        split
        · exact h2
        · intro c hx; cases hx
      | d => exact h2
      | p c =>
        show ∀ x ∈ s.f ++ [c], P x
        intro x hx
        rcases List.mem_append.mp hx with hx | hx
        · exact h2 x hx
        · simp at hx
          subst hx
          exact ho x List.mem_cons_self
theorem told_in (P : Nat → Prop) (ops : List Op) (h : ∀ c, Op.p c ∈ ops → P c) : ∀ l, Wd.p l ∈ (PO ops).told → ∀ c ∈ l, P c := by
  obtain ⟨h1, h2⟩ := fold_in P ops PS.nil h (fun l hl => by cases hl) (fun c hx => by cases hx)
  intro l hl
  have hl' : Wd.p l ∈ (PO ops).close.ws := hl
  unfold PS.close at hl'
  simp only [List.mem_append] at hl'
  rcases hl' with ((hl | hl) | hl) | hl
  · exact h1 l hl
  · split at hl
    · cases hl
    · simp at hl
  · split at hl
    · cases hl
    · simp at hl
  · split at hl
    · cases hl
    · simp at hl
      subst hl
      exact h2
theorem vol_le (ws : List Wd) : vol ws ≤ taken ws + lefts ws := by
  induction ws with
  | nil => exact Nat.le_refl _
  | cons w ws ih =>
    unfold vol taken lefts at *
    simp only [List.map_cons, List.sum_cons]
    have : volW w ≤ takW w + lefW w := by cases w <;> simp [volW, takW, lefW]
    omega
theorem vol_mem {w : Wd} : ∀ {ws : List Wd}, w ∈ ws → volW w ≤ vol ws
  | [], h => by cases h
  | x :: ws, h => by
    unfold vol
    rw [List.map_cons, List.sum_cons]
    rcases List.mem_cons.mp h with rfl | h
    · omega
    · have := vol_mem h
      unfold vol at this
      omega
theorem okE_of {a : List Nat} {ws : List Wd} (h1 : ∀ w ∈ ws, pos w) (h2 : ∀ l, Wd.p l ∈ ws → ∀ c ∈ l, c ∈ a) (h3 : vol ws ≤ 900) : OkE a ws := by
  refine ⟨fun w hw => ?_, h3⟩
  have hv := vol_mem hw
  have hp := h1 w hw
  cases w with
  | k n => exact ⟨hp, by simp only [volW] at hv; omega⟩
  | d n => exact ⟨hp, by simp only [volW] at hv; omega⟩
  | p l => exact ⟨hp, h2 l hw, by simp only [volW] at hv; omega⟩
theorem okE_told {a : List Nat} (ops : List Op) (h : ∀ c, Op.p c ∈ ops → c ∈ a) (hv : tk ops + leftO ops ≤ 900) : OkE a (PO ops).told :=
  okE_of (told_pos ops) (told_in (· ∈ a) ops h) (by
    have := vol_le (PO ops).told
    rw [told_taken, told_lefts] at this
    omega)
theorem pos_of_ok {a : List Nat} {ws : List Wd} (h : OkE a ws) : ∀ w ∈ ws, pos w := fun w hw => pos_of (h.ok w hw)
theorem lefts_vol : ∀ ws : List Wd, lefts ws ≤ vol ws
  | [] => Nat.le_refl _
  | w :: ws => by
    have h := lefts_vol ws
    unfold lefts vol at *
    rw [List.map_cons, List.sum_cons, List.map_cons, List.sum_cons]
    have : lefW w ≤ volW w := by cases w <;> simp [lefW, volW]
    omega
/-! the law's walk over a longest row -/
def liIn (x : Nat) (a : List Nat) (f : List Nat → Nat → List It2) : List Nat → Nat → List It2
  | [], i => f [] (i + 1)
  | y :: b, i => if x = y then .old i :: f b (i + 1) else if lc a (y :: b) = lc (x :: a) (y :: b) then f (y :: b) (i + 1) else .new y :: liIn x a f b i
def li : List Nat → List Nat → Nat → List It2
  | [] => fun b _ => b.map It2.new
  | x :: a => liIn x a (li a)
theorem li_cons (x : Nat) (a : List Nat) (y : Nat) (b : List Nat) (i : Nat) : li (x :: a) (y :: b) i = if x = y then .old i :: li a b (i + 1) else if lc a (y :: b) = lc (x :: a) (y :: b) then li a (y :: b) (i + 1) else .new y :: li (x :: a) b i := rfl
theorem li_lw : ∀ (a b : List Nat) (i : Nat), li a b i = iof (lw a b) i
  | [], b, i => by
    rw [lw_nil]
    show b.map It2.new = _
    induction b with
    | nil => rfl
    | cons c r ih => show It2.new c :: r.map It2.new = It2.new c :: iof (r.map .p) i; rw [ih]
  | x :: a, [], i => by
    show li a [] (i + 1) = iof (.d :: lw a []) i
    rw [li_lw a [] (i + 1)]
    rfl
  | x :: a, y :: b, i => by
    rw [li_cons, lw_cons]
    by_cases h : x = y
    · rw [if_pos h, if_pos h, li_lw a b (i + 1)]
      rfl
    · rw [if_neg h, if_neg h]
      have e1 := ed_lc (x :: a) (y :: b)
      have e2 := ed_lc a (y :: b)
      simp only [List.length_cons] at e1 e2
      by_cases h2 : lc a (y :: b) = lc (x :: a) (y :: b)
      · rw [if_pos h2, if_pos (by omega), li_lw a (y :: b) (i + 1)]
        rfl
      · rw [if_neg h2, if_neg (by omega), li_lw (x :: a) b i]
        rfl
theorem ed_self : ∀ a : List Nat, ed a a = 0
  | [] => rfl
  | x :: a => by rw [ed_cons, if_pos rfl, ed_self a]
theorem lw_self : ∀ a : List Nat, lw a a = List.replicate a.length .k
  | [] => rfl
  | x :: a => by rw [lw_cons, if_pos rfl, lw_self a]; rfl
end Ed
namespace Ed
theorem stepO_size (s : PS) (o : Op) : (stepO s o).size ≤ s.size + 1 := by
  cases o with
  | k => exact s.keep_size 1
  | d => exact Nat.le_of_eq (s.drop_size 1)
  | p c => exact Nat.le_of_eq (s.put_size [c])
theorem foldO_size : ∀ (ops : List Op) (s : PS), (ops.foldl stepO s).size ≤ s.size + ops.length
  | [], s => Nat.le_refl _
  | o :: r, s => by
    have h1 := stepO_size s o
    have h2 := foldO_size r (stepO s o)
    rw [List.foldl_cons, List.length_cons]
    omega
theorem PO_size (ops : List Op) : (PO ops).size ≤ ops.length := by
  have := foldO_size ops PS.nil
  have e : PS.nil.size = 0 := rfl
  unfold PO
  omega
theorem lw_len : ∀ (a b : List Nat), (lw a b).length ≤ a.length + b.length
  | [], b => by rw [lw_nil, List.length_map]; omega
  | x :: a, [] => by
    have := lw_len a []
    rw [lw_nil2, List.length_cons, List.length_cons]
    omega
  | x :: a, y :: b => by
    have h1 := lw_len a b
    have h2 := lw_len a (y :: b)
    have h3 := lw_len (x :: a) b
    rw [lw_cons]
    simp only [List.length_cons] at *
    split
    · simp only [List.length_cons]; omega
    · split
      · simp only [List.length_cons]; omega
      · simp only [List.length_cons]; omega
end Ed

/-! ## edits behind edits -/
namespace Ed
/-- two behind one, sign by sign -/
def cmpL : Nat → List Op → List Op → List Op
  | 0, _, _ => []
  | _ + 1, o1, [] => o1
  | f + 1, o1, .p c :: o2 => .p c :: cmpL f o1 o2
  | _ + 1, [], _ :: _ => []
  | f + 1, .d :: o1, x :: o2 => .d :: cmpL f o1 (x :: o2)
  | f + 1, .k :: o1, .k :: o2 => .k :: cmpL f o1 o2
  | f + 1, .k :: o1, .d :: o2 => .d :: cmpL f o1 o2
  | f + 1, .p c :: o1, .k :: o2 => .p c :: cmpL f o1 o2
  | f + 1, .p _ :: o1, .d :: o2 => cmpL f o1 o2
def cmp (o1 o2 : List Op) : List Op := cmpL (o1.length + o2.length + 1) o1 o2
theorem cmpL_more : ∀ (f g : Nat) (o1 o2 : List Op), o1.length + o2.length < f → o1.length + o2.length < g → cmpL f o1 o2 = cmpL g o1 o2
  | 0, _, _, _, h, _ => absurd h (Nat.not_lt_zero _)
  | _, 0, _, _, _, h => absurd h (Nat.not_lt_zero _)
  | f + 1, g + 1, o1, [], _, _ => by
    cases o1 <;> rfl
  | f + 1, g + 1, o1, .p c :: o2, h1, h2 => by
    simp only [List.length_cons] at h1 h2
    have := cmpL_more f g o1 o2 (by omega) (by omega)
    cases o1 <;> simp only [cmpL, this]
  | f + 1, g + 1, [], .k :: o2, _, _ => rfl
  | f + 1, g + 1, [], .d :: o2, _, _ => rfl
  | f + 1, g + 1, .d :: o1, .k :: o2, h1, h2 => by
    simp only [List.length_cons] at h1 h2
    have := cmpL_more f g o1 (.k :: o2) (by simp only [List.length_cons]; omega) (by simp only [List.length_cons]; omega)
    simp only [cmpL, this]
  | f + 1, g + 1, .d :: o1, .d :: o2, h1, h2 => by
    simp only [List.length_cons] at h1 h2
    have := cmpL_more f g o1 (.d :: o2) (by simp only [List.length_cons]; omega) (by simp only [List.length_cons]; omega)
    simp only [cmpL, this]
  | f + 1, g + 1, .k :: o1, .k :: o2, h1, h2 => by
    simp only [List.length_cons] at h1 h2
    have := cmpL_more f g o1 o2 (by omega) (by omega)
    simp only [cmpL, this]
  | f + 1, g + 1, .k :: o1, .d :: o2, h1, h2 => by
    simp only [List.length_cons] at h1 h2
    have := cmpL_more f g o1 o2 (by omega) (by omega)
    simp only [cmpL, this]
  | f + 1, g + 1, .p c :: o1, .k :: o2, h1, h2 => by
    simp only [List.length_cons] at h1 h2
    have := cmpL_more f g o1 o2 (by omega) (by omega)
    simp only [cmpL, this]
  | f + 1, g + 1, .p c :: o1, .d :: o2, h1, h2 => by
    simp only [List.length_cons] at h1 h2
    have := cmpL_more f g o1 o2 (by omega) (by omega)
    simp only [cmpL, this]
theorem cmp_nil (o1 : List Op) : cmp o1 [] = o1 := by cases o1 <;> rfl
theorem cmp_p (o1 : List Op) (c : Nat) (o2 : List Op) : cmp o1 (.p c :: o2) = .p c :: cmp o1 o2 := by
  have := cmpL_more (o1.length + (o2.length + 1)) (o1.length + o2.length + 1) o1 o2 (by omega) (by omega)
  unfold cmp
  rw [List.length_cons]
  cases o1 <;> simp only [cmpL, this]
theorem cmp_d (o1 : List Op) (x : Op) (o2 : List Op) (h : x = .k ∨ x = .d) : cmp (.d :: o1) (x :: o2) = .d :: cmp o1 (x :: o2) := by
  have := cmpL_more (o1.length + 1 + (o2.length + 1)) (o1.length + (o2.length + 1) + 1) o1 (x :: o2) (by simp only [List.length_cons]; omega) (by simp only [List.length_cons]; omega)
  unfold cmp
  rw [List.length_cons, List.length_cons]
  rcases h with rfl | rfl <;> simp only [cmpL, this]
theorem cmp_kk (o1 o2 : List Op) : cmp (.k :: o1) (.k :: o2) = .k :: cmp o1 o2 := by
  have := cmpL_more (o1.length + 1 + (o2.length + 1)) (o1.length + o2.length + 1) o1 o2 (by omega) (by omega)
  unfold cmp
  rw [List.length_cons, List.length_cons]
  simp only [cmpL, this]
theorem cmp_kd (o1 o2 : List Op) : cmp (.k :: o1) (.d :: o2) = .d :: cmp o1 o2 := by
  have := cmpL_more (o1.length + 1 + (o2.length + 1)) (o1.length + o2.length + 1) o1 o2 (by omega) (by omega)
  unfold cmp
  rw [List.length_cons, List.length_cons]
  simp only [cmpL, this]
theorem cmp_pk (c : Nat) (o1 o2 : List Op) : cmp (.p c :: o1) (.k :: o2) = .p c :: cmp o1 o2 := by
  have := cmpL_more (o1.length + 1 + (o2.length + 1)) (o1.length + o2.length + 1) o1 o2 (by omega) (by omega)
  unfold cmp
  rw [List.length_cons, List.length_cons]
  simp only [cmpL, this]
theorem cmp_pd (c : Nat) (o1 o2 : List Op) : cmp (.p c :: o1) (.d :: o2) = cmp o1 o2 := by
  have := cmpL_more (o1.length + 1 + (o2.length + 1)) (o1.length + o2.length + 1) o1 o2 (by omega) (by omega)
  unfold cmp
  rw [List.length_cons, List.length_cons]
  simp only [cmpL, this]
/-- items through items -/
def look (l : List It2) : It2 → It2
  | .old v => l.getD v (.new 0)
  | .new c => .new c
def thr (l m : List It2) : List It2 := m.map (look l)
theorem thr_cmp : ∀ (n : Nat) (o1 o2 : List Op), o1.length + o2.length ≤ n → tk o2 = leftO o1 → ∀ (pre : List It2) (i : Nat), thr (pre ++ iof o1 i) (iof o2 pre.length) = iof (cmp o1 o2) i ∧ tk (cmp o1 o2) = tk o1
  | n, [], [], _, _, pre, i => ⟨rfl, rfl⟩
  | 0, x :: o1, o2, h, _, _, _ => by simp at h
  | 0, [], x :: o2, h, _, _, _ => by simp at h
  | n + 1, .d :: o1, [], h, ht, pre, i => by
    obtain ⟨h1, h2⟩ := thr_cmp n o1 [] (by simp only [List.length_cons, List.length_nil] at h ⊢; omega) ht pre (i + 1)
    rw [cmp_nil] at h1 h2 ⊢
    exact ⟨h1, rfl⟩
  | n + 1, .k :: o1, [], h, ht, pre, i => by
    have : tk ([] : List Op) = leftO o1 + 1 := ht
    have : tk ([] : List Op) = 0 := rfl
    omega
  | n + 1, .p c :: o1, [], h, ht, pre, i => by
    have : tk ([] : List Op) = leftO o1 + 1 := ht
    have : tk ([] : List Op) = 0 := rfl
    omega
  | n + 1, o1, .p c :: o2, h, ht, pre, i => by
    obtain ⟨h1, h2⟩ := thr_cmp n o1 o2 (by simp only [List.length_cons] at h; omega) ht pre i
    rw [cmp_p]
    refine ⟨?_, h2⟩
    show It2.new c :: thr (pre ++ iof o1 i) (iof o2 pre.length) = It2.new c :: iof (cmp o1 o2) i
    rw [h1]
  | n + 1, [], .k :: o2, h, ht, pre, i => by
    have : tk o2 + 1 = leftO ([] : List Op) := ht
    have : leftO ([] : List Op) = 0 := rfl
    omega
  | n + 1, [], .d :: o2, h, ht, pre, i => by
    have : tk o2 + 1 = leftO ([] : List Op) := ht
    have : leftO ([] : List Op) = 0 := rfl
    omega
  | n + 1, .d :: o1, .k :: o2, h, ht, pre, i => by
    obtain ⟨h1, h2⟩ := thr_cmp n o1 (.k :: o2) (by simp only [List.length_cons] at h ⊢; omega) ht pre (i + 1)
    rw [cmp_d _ _ _ (.inl rfl)]
    refine ⟨h1, ?_⟩
    show tk (cmp o1 (.k :: o2)) + 1 = tk o1 + 1
    rw [h2]
  | n + 1, .d :: o1, .d :: o2, h, ht, pre, i => by
    obtain ⟨h1, h2⟩ := thr_cmp n o1 (.d :: o2) (by simp only [List.length_cons] at h ⊢; omega) ht pre (i + 1)
    rw [cmp_d _ _ _ (.inr rfl)]
    refine ⟨h1, ?_⟩
    show tk (cmp o1 (.d :: o2)) + 1 = tk o1 + 1
    rw [h2]
  | n + 1, .k :: o1, .k :: o2, h, ht, pre, i => by
    obtain ⟨h1, h2⟩ := thr_cmp n o1 o2 (by simp only [List.length_cons] at h; omega) (Nat.succ.inj ht) (pre ++ [.old i]) (i + 1)
    rw [cmp_kk]
    rw [List.length_append, List.length_singleton, List.append_assoc] at h1
    refine ⟨?_, ?_⟩
    · show look (pre ++ It2.old i :: iof o1 (i + 1)) (.old pre.length) :: thr (pre ++ It2.old i :: iof o1 (i + 1)) (iof o2 (pre.length + 1)) = It2.old i :: iof (cmp o1 o2) (i + 1)
      rw [← h1]
      congr 1
      show (pre ++ It2.old i :: iof o1 (i + 1)).getD pre.length (.new 0) = _
      simp
    · show tk (cmp o1 o2) + 1 = tk o1 + 1
      rw [h2]
  | n + 1, .k :: o1, .d :: o2, h, ht, pre, i => by
    obtain ⟨h1, h2⟩ := thr_cmp n o1 o2 (by simp only [List.length_cons] at h; omega) (Nat.succ.inj ht) (pre ++ [.old i]) (i + 1)
    rw [cmp_kd]
    rw [List.length_append, List.length_singleton, List.append_assoc] at h1
    refine ⟨h1, ?_⟩
    show tk (cmp o1 o2) + 1 = tk o1 + 1
    rw [h2]
  | n + 1, .p c :: o1, .k :: o2, h, ht, pre, i => by
    obtain ⟨h1, h2⟩ := thr_cmp n o1 o2 (by simp only [List.length_cons] at h; omega) (Nat.succ.inj ht) (pre ++ [.new c]) i
    rw [cmp_pk]
    rw [List.length_append, List.length_singleton, List.append_assoc] at h1
    refine ⟨?_, h2⟩
    show look (pre ++ It2.new c :: iof o1 i) (.old pre.length) :: thr (pre ++ It2.new c :: iof o1 i) (iof o2 (pre.length + 1)) = It2.new c :: iof (cmp o1 o2) i
    rw [← h1]
    congr 1
    show (pre ++ It2.new c :: iof o1 i).getD pre.length (.new 0) = _
    simp
  | n + 1, .p c :: o1, .d :: o2, h, ht, pre, i => by
    obtain ⟨h1, h2⟩ := thr_cmp n o1 o2 (by simp only [List.length_cons] at h; omega) (Nat.succ.inj ht) (pre ++ [.new c]) i
    rw [cmp_pd]
    rw [List.length_append, List.length_singleton, List.append_assoc] at h1
    exact ⟨h1, h2⟩
theorem cmp_items {o1 o2 : List Op} (h : tk o2 = leftO o1) : iof (cmp o1 o2) 0 = thr (iof o1 0) (iof o2 0) ∧ tk (cmp o1 o2) = tk o1 := by
  obtain ⟨h1, h2⟩ := thr_cmp _ o1 o2 (Nat.le_refl _) h [] 0
  exact ⟨h1.symm, h2⟩
theorem cmp_left {o1 o2 : List Op} (h : tk o2 = leftO o1) : leftO (cmp o1 o2) = leftO o2 := by
  rw [← iof_len (cmp o1 o2) 0, (cmp_items h).1]
  unfold thr
  rw [List.length_map, iof_len]
theorem thr_assoc (a b c : List It2) (h : ∀ j, It2.old j ∈ c → j < b.length) : thr (thr a b) c = thr a (thr b c) := by
  unfold thr
  rw [List.map_map]
  refine List.map_congr_left fun x hx => ?_
  cases x with
  | new c => rfl
  | old j =>
    have hj := h j hx
    show (b.map (look a)).getD j (.new 0) = look a (b.getD j (.new 0))
    rw [List.getD_eq_getElem?_getD, List.getD_eq_getElem?_getD, List.getElem?_map, List.getElem?_eq_getElem hj]
    rfl
/-- each item gives one sign -/
theorem dr_one {t : List Nat} {x : It2} (h : ∀ j, x = .old j → j < t.length) : ∃ c, dr t x = [c] := by
  cases x with
  | new c => exact ⟨c, rfl⟩
  | old j =>
    have hj := h j rfl
    exact ⟨t[j], by show (t.drop j).take 1 = _; rw [List.drop_eq_getElem_cons hj]; rfl⟩
theorem out_get {t : List Nat} : ∀ {l : List It2} (v : Nat), (∀ j, It2.old j ∈ l → j < t.length) → v < l.length → ((outI t l).drop v).take 1 = dr t (l.getD v (.new 0))
  | [], v, _, h => absurd h (Nat.not_lt_zero _)
  | x :: l, 0, hl, _ => by
    obtain ⟨c, hc⟩ := dr_one (t := t) (x := x) fun j e => hl j (e ▸ List.mem_cons_self)
    rw [outI_cons, hc]
    show _ = dr t x
    rw [hc]
    rfl
  | x :: l, v + 1, hl, h => by
    obtain ⟨c, hc⟩ := dr_one (t := t) (x := x) fun j e => hl j (e ▸ List.mem_cons_self)
    rw [outI_cons, hc]
    exact out_get (l := l) v (fun j hj => hl j (List.mem_cons_of_mem _ hj)) (Nat.lt_of_succ_lt_succ h)
theorem out_thr {t : List Nat} {a : List It2} (ha : ∀ j, It2.old j ∈ a → j < t.length) : ∀ (b : List It2), (∀ j, It2.old j ∈ b → j < a.length) → outI t (thr a b) = outI (outI t a) b
  | [], _ => rfl
  | x :: b, hb => by
    show outI t (look a x :: thr a b) = _
    rw [outI_cons, outI_cons, out_thr ha b fun j hj => hb j (List.mem_cons_of_mem _ hj)]
    congr 1
    cases x with
    | new c => rfl
    | old j => exact (out_get j ha (hb j List.mem_cons_self)).symm
theorem thr_same (b : List It2) (n : Nat) (h : ∀ j, It2.old j ∈ b → j < n) : thr ((List.range n).map It2.old) b = b := by
  unfold thr
  conv => rhs; rw [← List.map_id b]
  refine List.map_congr_left fun x hx => ?_
  cases x with
  | new c => rfl
  | old j =>
    have hj := h j hx
    show ((List.range n).map It2.old).getD j (.new 0) = .old j
    rw [List.getD_eq_getElem?_getD, List.getElem?_map, List.getElem?_range hj]
    rfl
theorem cmp_in (P : Nat → Prop) : ∀ (n : Nat) (o1 o2 : List Op), o1.length + o2.length ≤ n → (∀ c, Op.p c ∈ o1 → P c) → (∀ c, Op.p c ∈ o2 → P c) → ∀ c, Op.p c ∈ cmp o1 o2 → P c
  | n, o1, [], _, h1, _, c, hc => h1 c (by rw [cmp_nil] at hc; exact hc)
  | 0, o1, x :: o2, h, _, _, _, _ => by simp at h
  | n + 1, o1, .p d :: o2, h, h1, h2, c, hc => by
    rw [cmp_p] at hc
    rcases List.mem_cons.mp hc with e | hc
    · cases e; exact h2 _ List.mem_cons_self
    · exact cmp_in P n o1 o2 (by simp only [List.length_cons] at h; omega) h1 (fun c h => h2 c (List.mem_cons_of_mem _ h)) c hc
  | n + 1, [], .k :: o2, _, _, _, c, hc => by cases hc
  | n + 1, [], .d :: o2, _, _, _, c, hc => by cases hc
  | n + 1, .d :: o1, .k :: o2, h, h1, h2, c, hc => by
    rw [cmp_d _ _ _ (.inl rfl)] at hc
    rcases List.mem_cons.mp hc with e | hc
    · cases e
    · exact cmp_in P n o1 (.k :: o2) (by simp only [List.length_cons] at h ⊢; omega) (fun c h => h1 c (List.mem_cons_of_mem _ h)) h2 c hc
  | n + 1, .d :: o1, .d :: o2, h, h1, h2, c, hc => by
    rw [cmp_d _ _ _ (.inr rfl)] at hc
    rcases List.mem_cons.mp hc with e | hc
    · cases e
    · exact cmp_in P n o1 (.d :: o2) (by simp only [List.length_cons] at h ⊢; omega) (fun c h => h1 c (List.mem_cons_of_mem _ h)) h2 c hc
  | n + 1, .k :: o1, .k :: o2, h, h1, h2, c, hc => by
    rw [cmp_kk] at hc
    rcases List.mem_cons.mp hc with e | hc
    · cases e
    · exact cmp_in P n o1 o2 (by simp only [List.length_cons] at h; omega) (fun c h => h1 c (List.mem_cons_of_mem _ h)) (fun c h => h2 c (List.mem_cons_of_mem _ h)) c hc
  | n + 1, .k :: o1, .d :: o2, h, h1, h2, c, hc => by
    rw [cmp_kd] at hc
    rcases List.mem_cons.mp hc with e | hc
    · cases e
    · exact cmp_in P n o1 o2 (by simp only [List.length_cons] at h; omega) (fun c h => h1 c (List.mem_cons_of_mem _ h)) (fun c h => h2 c (List.mem_cons_of_mem _ h)) c hc
  | n + 1, .p d :: o1, .k :: o2, h, h1, h2, c, hc => by
    rw [cmp_pk] at hc
    rcases List.mem_cons.mp hc with e | hc
    · cases e; exact h1 _ List.mem_cons_self
    · exact cmp_in P n o1 o2 (by simp only [List.length_cons] at h; omega) (fun c h => h1 c (List.mem_cons_of_mem _ h)) (fun c h => h2 c (List.mem_cons_of_mem _ h)) c hc
  | n + 1, .p d :: o1, .d :: o2, h, h1, h2, c, hc => by
    rw [cmp_pd] at hc
    exact cmp_in P n o1 o2 (by simp only [List.length_cons] at h; omega) (fun c h => h1 c (List.mem_cons_of_mem _ h)) (fun c h => h2 c (List.mem_cons_of_mem _ h)) c hc
/-- two edits that keep the same places tell the same -/
theorem told_eq {o o' : List Op} (h1 : iof o 0 = iof o' 0) (h2 : tk o = tk o') : (PO o).told = (PO o').told := by
  rw [← ptold_eq, ← ptold_eq, h1, h2]
end Ed
/-! ## one's signs as a row of places -/
namespace Ed
inductive Gn where
  | gone (n : Nat) | old | new (c : Nat)
def opG : Gn → List Op
  | .gone n => List.replicate n .d | .old => [.k] | .new c => [.p c]
def entW : Wd → List Gn
  | .k n => List.replicate n .old | .d n => [.gone n] | .p l => l.map .new
def entG (ws : List Wd) : List Gn := ws.flatMap entW
def fl (es : List Gn) : List Op := es.flatMap opG
theorem fl_cons (e : Gn) (es : List Gn) : fl (e :: es) = opG e ++ fl es := List.flatMap_cons
theorem fl_app (a b : List Gn) : fl (a ++ b) = fl a ++ fl b := List.flatMap_append
theorem fl_old : ∀ n : Nat, fl (List.replicate n .old) = List.replicate n .k
  | 0 => rfl
  | n + 1 => by
    rw [List.replicate_succ, fl_cons, fl_old n]
    rfl
theorem fl_new : ∀ l : List Nat, fl (l.map .new) = l.map .p
  | [] => rfl
  | c :: l => by
    rw [List.map_cons, fl_cons, fl_new l]
    rfl
theorem fl_entW (w : Wd) : fl (entW w) = opsW w := by
  cases w with
  | k n => exact fl_old n
  | d n => exact List.append_nil _
  | p l => exact fl_new l
theorem fl_entG : ∀ ws : List Wd, fl (entG ws) = opsOf ws
  | [] => rfl
  | w :: ws => by
    show fl ((w :: ws).flatMap entW) = _
    rw [List.flatMap_cons, fl_app, fl_entW, opsOf_cons]
    congr 1
    exact fl_entG ws
def gn : List Gn → Nat
  | .gone _ :: r => gn r + 1
  | _ => 0
def gs : List Gn → Nat
  | .gone n :: r => n + gs r
  | _ => 0
theorem gn_len : ∀ es : List Gn, gn es ≤ es.length
  | [] => Nat.le_refl _
  | .gone _ :: r => Nat.succ_le_succ (gn_len r)
  | .old :: r => Nat.zero_le _
  | .new _ :: r => Nat.zero_le _
theorem fl_skip : ∀ es : List Gn, fl es = List.replicate (gs es) .d ++ fl (es.drop (gn es))
  | [] => rfl
  | .gone n :: r => by
    rw [fl_cons, fl_skip r]
    show List.replicate n .d ++ (List.replicate (gs r) .d ++ fl (r.drop (gn r))) = List.replicate (n + gs r) .d ++ fl (r.drop (gn r))
    rw [← List.append_assoc, List.replicate_append_replicate]
  | .old :: r => rfl
  | .new _ :: r => rfl
theorem drop_gn : ∀ (es : List Gn) (n : Nat) (r : List Gn), es.drop (gn es) ≠ .gone n :: r
  | [], n, r, h => by cases h
  | .gone _ :: s, n, r, h => drop_gn s n r h
  | .old :: s, n, r, h => by cases h
  | .new _ :: s, n, r, h => by cases h
theorem left_fl_d (n : Nat) (o : List Op) : leftO (List.replicate n .d ++ o) = leftO o := by rw [leftO_app, left_d, Nat.zero_add]
theorem cmp_ds (x : Op) (h : x = .k ∨ x = .d) (o1 o2 : List Op) : ∀ n : Nat, cmp (List.replicate n .d ++ o1) (x :: o2) = List.replicate n .d ++ cmp o1 (x :: o2)
  | 0 => rfl
  | n + 1 => by
    rw [List.replicate_succ, List.cons_append, cmp_d _ _ _ h, cmp_ds x h o1 o2 n]
    rfl
theorem cmp_ps (o1 o2 : List Op) : ∀ l : List Nat, cmp o1 (l.map .p ++ o2) = l.map .p ++ cmp o1 o2
  | [] => rfl
  | c :: l => by
    rw [List.map_cons, List.cons_append, cmp_p, cmp_ps o1 o2 l]
    rfl
theorem cmp_len : ∀ (n : Nat) (o1 o2 : List Op), o1.length + o2.length ≤ n → (cmp o1 o2).length ≤ o1.length + o2.length
  | n, o1, [], _ => by rw [cmp_nil]; simp
  | 0, o1, x :: o2, h => by simp at h
  | n + 1, o1, .p d :: o2, h => by
    have := cmp_len n o1 o2 (by simp only [List.length_cons] at h; omega)
    rw [cmp_p]
    simp only [List.length_cons]
    omega
  | n + 1, [], .k :: o2, _ => Nat.zero_le _
  | n + 1, [], .d :: o2, _ => Nat.zero_le _
  | n + 1, .d :: o1, .k :: o2, h => by
    have := cmp_len n o1 (.k :: o2) (by simp only [List.length_cons] at h ⊢; omega)
    rw [cmp_d _ _ _ (.inl rfl)]
    simp only [List.length_cons] at *
    omega
  | n + 1, .d :: o1, .d :: o2, h => by
    have := cmp_len n o1 (.d :: o2) (by simp only [List.length_cons] at h ⊢; omega)
    rw [cmp_d _ _ _ (.inr rfl)]
    simp only [List.length_cons] at *
    omega
  | n + 1, .k :: o1, .k :: o2, h => by
    have := cmp_len n o1 o2 (by simp only [List.length_cons] at h; omega)
    rw [cmp_kk]
    simp only [List.length_cons]
    omega
  | n + 1, .k :: o1, .d :: o2, h => by
    have := cmp_len n o1 o2 (by simp only [List.length_cons] at h; omega)
    rw [cmp_kd]
    simp only [List.length_cons]
    omega
  | n + 1, .p d :: o1, .k :: o2, h => by
    have := cmp_len n o1 o2 (by simp only [List.length_cons] at h; omega)
    rw [cmp_pk]
    simp only [List.length_cons]
    omega
  | n + 1, .p d :: o1, .d :: o2, h => by
    have := cmp_len n o1 o2 (by simp only [List.length_cons] at h; omega)
    rw [cmp_pd]
    simp only [List.length_cons]
    omega
theorem opsOf_len : ∀ ws : List Wd, (opsOf ws).length = vol ws
  | [] => rfl
  | w :: ws => by
    have := opsOf_len ws
    rw [opsOf_cons, List.length_append, this]
    unfold vol
    rw [List.map_cons, List.sum_cons]
    congr 1
    cases w <;> simp [opsW, volW]
theorem PO_ds (ops : List Op) (n : Nat) : PO (ops ++ List.replicate n .d) = (PO ops).drop n := by
  unfold PO
  rw [List.foldl_append, fold_drop]
theorem PO_ps (ops : List Op) (l : List Nat) : PO (ops ++ l.map .p) = (PO ops).put l := by
  unfold PO
  rw [List.foldl_append, fold_put]
theorem entG_snoc (ws : List Wd) (w : Wd) : entG (ws ++ [w]) = entG ws ++ entW w := by
  unfold entG
  rw [List.flatMap_append, List.flatMap_singleton]
theorem entG_len : ∀ ws : List Wd, (entG ws).length ≤ vol ws + ws.length
  | [] => Nat.le_refl _
  | w :: ws => by
    have := entG_len ws
    show ((w :: ws).flatMap entW).length ≤ _
    rw [List.flatMap_cons, List.length_append]
    have e : (ws.flatMap entW).length ≤ vol ws + ws.length := this
    have h : (entW w).length ≤ volW w + 1 := by cases w <;> simp [entW, volW]
    unfold vol at *
    rw [List.map_cons, List.sum_cons, List.length_cons]
    omega
end Ed

namespace K75
open PySem PySem.Spec L2 T Ed
open PyProof.Rows hiding St
open C8 (Cal Mak Met pe_c pe_mk pe_mt pe_mt0 pe_gc)
theorem sc_BadSigns_init : FnScope ["self", "signs"] ["self", "signs"] (defScope s_BadSigns_init) := ⟨rfl, rfl, rfl, by decide +kernel, rfl, by decide +kernel, by decide +kernel⟩
theorem sc_BadWord_init : FnScope ["self", "word"] ["self", "word"] (defScope s_BadWord_init) := ⟨rfl, rfl, rfl, by decide +kernel, rfl, by decide +kernel, by decide +kernel⟩
theorem sc_BadPaper_init : FnScope ["self", "paper"] ["self", "paper"] (defScope s_BadPaper_init) := ⟨rfl, rfl, rfl, by decide +kernel, rfl, by decide +kernel, by decide +kernel⟩
theorem sc_NotKept_init : FnScope ["self", "promise", "witness"] ["self", "promise", "witness"] (defScope s_NotKept_init) := ⟨rfl, rfl, rfl, by decide +kernel, rfl, by decide +kernel, by decide +kernel⟩
theorem sc_are_signs : FnScope ["value", "sign"] ["value"] (defScope s_are_signs) := ⟨rfl, rfl, rfl, by decide +kernel, rfl, by decide +kernel, by decide +kernel⟩
theorem sc_need_signs : FnScope ["signs"] ["signs"] (defScope s_need_signs) := ⟨rfl, rfl, rfl, by decide +kernel, rfl, by decide +kernel, by decide +kernel⟩
theorem sc_is_text_in : FnScope ["signs", "value", "sign"] ["signs", "value"] (defScope s_is_text_in) := ⟨rfl, rfl, rfl, by decide +kernel, rfl, by decide +kernel, by decide +kernel⟩
theorem sc_need_text : FnScope ["signs", "text"] ["signs", "text"] (defScope s_need_text) := ⟨rfl, rfl, rfl, by decide +kernel, rfl, by decide +kernel, by decide +kernel⟩
theorem sc_is_edit_word : FnScope ["signs", "value", "sign"] ["signs", "value"] (defScope s_is_edit_word) := ⟨rfl, rfl, rfl, by decide +kernel, rfl, by decide +kernel, by decide +kernel⟩
theorem sc_is_edit_in : FnScope ["signs", "value", "word"] ["signs", "value"] (defScope s_is_edit_in) := ⟨rfl, rfl, rfl, by decide +kernel, rfl, by decide +kernel, by decide +kernel⟩
theorem sc_pairs_in : FnScope ["edit", "word"] ["edit"] (defScope s_pairs_in) := ⟨rfl, rfl, rfl, by decide +kernel, rfl, by decide +kernel, by decide +kernel⟩
theorem sc_need_edit : FnScope ["signs", "edit"] ["signs", "edit"] (defScope s_need_edit) := ⟨rfl, rfl, rfl, by decide +kernel, rfl, by decide +kernel, by decide +kernel⟩
theorem sc_taken_by : FnScope ["edit", "word", "value"] ["edit"] (defScope s_taken_by) := ⟨rfl, rfl, rfl, by decide +kernel, rfl, by decide +kernel, by decide +kernel⟩
theorem sc_left_by : FnScope ["edit", "word", "value"] ["edit"] (defScope s_left_by) := ⟨rfl, rfl, rfl, by decide +kernel, rfl, by decide +kernel, by decide +kernel⟩
theorem sc_edit_sizes : FnScope ["signs", "edit"] ["signs", "edit"] (defScope s_edit_sizes) := ⟨rfl, rfl, rfl, by decide +kernel, rfl, by decide +kernel, by decide +kernel⟩
theorem sc_Plain_init : FnScope ["self"] ["self"] (defScope s_Plain_init) := ⟨rfl, rfl, rfl, by decide +kernel, rfl, by decide +kernel, by decide +kernel⟩
theorem sc_Plain_close_gap : FnScope ["self"] ["self"] (defScope s_Plain_close_gap) := ⟨rfl, rfl, rfl, by decide +kernel, rfl, by decide +kernel, by decide +kernel⟩
theorem sc_Plain_keep_signs : FnScope ["self", "n"] ["self", "n"] (defScope s_Plain_keep_signs) := ⟨rfl, rfl, rfl, by decide +kernel, rfl, by decide +kernel, by decide +kernel⟩
theorem sc_Plain_drop_signs : FnScope ["self", "n"] ["self", "n"] (defScope s_Plain_drop_signs) := ⟨rfl, rfl, rfl, by decide +kernel, rfl, by decide +kernel, by decide +kernel⟩
theorem sc_Plain_put_text : FnScope ["self", "text"] ["self", "text"] (defScope s_Plain_put_text) := ⟨rfl, rfl, rfl, by decide +kernel, rfl, by decide +kernel, by decide +kernel⟩
theorem sc_Plain_told : FnScope ["self"] ["self"] (defScope s_Plain_told) := ⟨rfl, rfl, rfl, by decide +kernel, rfl, by decide +kernel, by decide +kernel⟩
theorem sc_plain_in : FnScope ["edit", "plain", "word", "value"] ["edit"] (defScope s_plain_in) := ⟨rfl, rfl, rfl, by decide +kernel, rfl, by decide +kernel, by decide +kernel⟩
theorem sc_plain_edit : FnScope ["signs", "edit"] ["signs", "edit"] (defScope s_plain_edit) := ⟨rfl, rfl, rfl, by decide +kernel, rfl, by decide +kernel, by decide +kernel⟩
theorem sc_applied_in : FnScope ["edit", "text", "found", "at", "word", "value"] ["edit", "text"] (defScope s_applied_in) := ⟨rfl, rfl, rfl, by decide +kernel, rfl, by decide +kernel, by decide +kernel⟩
theorem sc_need_taken : FnScope ["edit", "many"] ["edit", "many"] (defScope s_need_taken) := ⟨rfl, rfl, rfl, by decide +kernel, rfl, by decide +kernel, by decide +kernel⟩
theorem sc_applied : FnScope ["signs", "edit", "text"] ["signs", "edit", "text"] (defScope s_applied) := ⟨rfl, rfl, rfl, by decide +kernel, rfl, by decide +kernel, by decide +kernel⟩
theorem sc_behind_in : FnScope ["one", "two", "plain", "signs", "word", "value", "sign", "at", "lap", "kind"] ["one", "two"] (defScope s_behind_in) := ⟨rfl, rfl, rfl, by decide +kernel, rfl, by decide +kernel, by decide +kernel⟩
theorem sc_passed_gone : FnScope ["plain", "signs", "at"] ["plain", "signs", "at"] (defScope s_passed_gone) := ⟨rfl, rfl, rfl, by decide +kernel, rfl, by decide +kernel, by decide +kernel⟩
theorem sc_edit_behind : FnScope ["signs", "one", "two"] ["signs", "one", "two"] (defScope s_edit_behind) := ⟨rfl, rfl, rfl, by decide +kernel, rfl, by decide +kernel, by decide +kernel⟩
theorem sc_turned_edit : FnScope ["signs", "edit", "text", "plain", "at", "word", "value"] ["signs", "edit", "text"] (defScope s_turned_edit) := ⟨rfl, rfl, rfl, by decide +kernel, rfl, by decide +kernel, by decide +kernel⟩
theorem sc_L_pen : FnScope ["script", "fold", "cell"] ["script"] (defScope s_L_pen) := ⟨rfl, rfl, rfl, by decide +kernel, rfl, by decide +kernel, by decide +kernel⟩
theorem sc_L_draw : FnScope ["pen", "many", "cell", "digit", "blend"] ["pen", "many"] (defScope s_L_draw) := ⟨rfl, rfl, rfl, by decide +kernel, rfl, by decide +kernel, by decide +kernel⟩
theorem sc_L_pick : FnScope ["pen", "some"] ["pen", "some"] (defScope s_L_pick) := ⟨rfl, rfl, rfl, by decide +kernel, rfl, by decide +kernel, by decide +kernel⟩
theorem sc_L_met : FnScope ["call", "e"] ["call"] (defScope s_L_met) := ⟨rfl, rfl, rfl, by decide +kernel, rfl, by decide +kernel, by decide +kernel⟩
theorem sc_L_pairs : FnScope ["edit", "word"] ["edit"] (defScope s_L_pairs) := ⟨rfl, rfl, rfl, by decide +kernel, rfl, by decide +kernel, by decide +kernel⟩
theorem sc_L_items : FnScope ["edit", "found", "at", "kind", "value", "sign", "k"] ["edit"] (defScope s_L_items) := ⟨rfl, rfl, rfl, by decide +kernel, rfl, by decide +kernel, by decide +kernel⟩
theorem sc_L_plain_told : FnScope ["items", "many", "words", "at", "fresh", "kept", "kind", "value"] ["items", "many"] (defScope s_L_plain_told) := ⟨rfl, rfl, rfl, by decide +kernel, rfl, by decide +kernel, by decide +kernel⟩
theorem sc_L_applied : FnScope ["items", "text", "kind", "value"] ["items", "text"] (defScope s_L_applied) := ⟨rfl, rfl, rfl, by decide +kernel, rfl, by decide +kernel, by decide +kernel⟩
theorem sc_L_some_edit : FnScope ["pen", "signs", "many", "words", "at", "lap", "k", "n"] ["pen", "signs", "many"] (defScope s_L_some_edit) := ⟨rfl, rfl, rfl, by decide +kernel, rfl, by decide +kernel, by decide +kernel⟩
theorem sc_L_line : FnScope ["pen", "signs", "most", "lap"] ["pen", "signs", "most"] (defScope s_L_line) := ⟨rfl, rfl, rfl, by decide +kernel, rfl, by decide +kernel, by decide +kernel⟩
theorem sc_L_through : FnScope ["one", "two", "first", "kind", "value"] ["one", "two"] (defScope s_L_through) := ⟨rfl, rfl, rfl, by decide +kernel, rfl, by decide +kernel, by decide +kernel⟩
theorem sc_law : FnScope ["script", "pen", "lap", "signs", "texts", "edits", "time", "k", "one", "two", "both", "first", "text", "there", "same", "far"] ["script"] (defScope s_law) := ⟨rfl, rfl, rfl, by decide +kernel, rfl, by decide +kernel, by decide +kernel⟩
structure Tx (K : PySem.W.Frag) (mg : Str → Option Value) : Prop where
  h : ∃ h : Heap, K.In h ∧ h.Ns mainGlobals mg
  c : He.SaysD fa fn K
  o : ex K = true
section
variable {K : PySem.W.Frag} {mg : Str → Option Value}
theorem g_are_signs (T : Tx K mg) : mg "are_signs" = some (.ref (He.ga K "are_signs")) := let ⟨_, X, G⟩ := T.h; He.glo_ok X G (T.c.fact 0 rfl)
theorem g_need_signs (T : Tx K mg) : mg "need_signs" = some (.ref (He.ga K "need_signs")) := let ⟨_, X, G⟩ := T.h; He.glo_ok X G (T.c.fact 1 rfl)
theorem g_is_text_in (T : Tx K mg) : mg "is_text_in" = some (.ref (He.ga K "is_text_in")) := let ⟨_, X, G⟩ := T.h; He.glo_ok X G (T.c.fact 2 rfl)
theorem g_need_text (T : Tx K mg) : mg "need_text" = some (.ref (He.ga K "need_text")) := let ⟨_, X, G⟩ := T.h; He.glo_ok X G (T.c.fact 3 rfl)
theorem g_is_edit_word (T : Tx K mg) : mg "is_edit_word" = some (.ref (He.ga K "is_edit_word")) := let ⟨_, X, G⟩ := T.h; He.glo_ok X G (T.c.fact 4 rfl)
theorem g_is_edit_in (T : Tx K mg) : mg "is_edit_in" = some (.ref (He.ga K "is_edit_in")) := let ⟨_, X, G⟩ := T.h; He.glo_ok X G (T.c.fact 5 rfl)
theorem g_pairs_in (T : Tx K mg) : mg "pairs_in" = some (.ref (He.ga K "pairs_in")) := let ⟨_, X, G⟩ := T.h; He.glo_ok X G (T.c.fact 6 rfl)
theorem g_need_edit (T : Tx K mg) : mg "need_edit" = some (.ref (He.ga K "need_edit")) := let ⟨_, X, G⟩ := T.h; He.glo_ok X G (T.c.fact 7 rfl)
theorem g_taken_by (T : Tx K mg) : mg "taken_by" = some (.ref (He.ga K "taken_by")) := let ⟨_, X, G⟩ := T.h; He.glo_ok X G (T.c.fact 8 rfl)
theorem g_left_by (T : Tx K mg) : mg "left_by" = some (.ref (He.ga K "left_by")) := let ⟨_, X, G⟩ := T.h; He.glo_ok X G (T.c.fact 9 rfl)
theorem g_edit_sizes (T : Tx K mg) : mg "edit_sizes" = some (.ref (He.ga K "edit_sizes")) := let ⟨_, X, G⟩ := T.h; He.glo_ok X G (T.c.fact 10 rfl)
theorem g_plain_in (T : Tx K mg) : mg "plain_in" = some (.ref (He.ga K "plain_in")) := let ⟨_, X, G⟩ := T.h; He.glo_ok X G (T.c.fact 11 rfl)
theorem g_plain_edit (T : Tx K mg) : mg "plain_edit" = some (.ref (He.ga K "plain_edit")) := let ⟨_, X, G⟩ := T.h; He.glo_ok X G (T.c.fact 12 rfl)
theorem g_applied_in (T : Tx K mg) : mg "applied_in" = some (.ref (He.ga K "applied_in")) := let ⟨_, X, G⟩ := T.h; He.glo_ok X G (T.c.fact 13 rfl)
theorem g_need_taken (T : Tx K mg) : mg "need_taken" = some (.ref (He.ga K "need_taken")) := let ⟨_, X, G⟩ := T.h; He.glo_ok X G (T.c.fact 14 rfl)
theorem g_applied (T : Tx K mg) : mg "applied" = some (.ref (He.ga K "applied")) := let ⟨_, X, G⟩ := T.h; He.glo_ok X G (T.c.fact 15 rfl)
theorem g_behind_in (T : Tx K mg) : mg "behind_in" = some (.ref (He.ga K "behind_in")) := let ⟨_, X, G⟩ := T.h; He.glo_ok X G (T.c.fact 16 rfl)
theorem g_passed_gone (T : Tx K mg) : mg "passed_gone" = some (.ref (He.ga K "passed_gone")) := let ⟨_, X, G⟩ := T.h; He.glo_ok X G (T.c.fact 17 rfl)
theorem g_edit_behind (T : Tx K mg) : mg "edit_behind" = some (.ref (He.ga K "edit_behind")) := let ⟨_, X, G⟩ := T.h; He.glo_ok X G (T.c.fact 18 rfl)
theorem g_turned_edit (T : Tx K mg) : mg "turned_edit" = some (.ref (He.ga K "turned_edit")) := let ⟨_, X, G⟩ := T.h; He.glo_ok X G (T.c.fact 19 rfl)
theorem g_L_pen (T : Tx K mg) : mg "_law_pen" = some (.ref (He.ga K "_law_pen")) := let ⟨_, X, G⟩ := T.h; He.glo_ok X G (T.c.fact 20 rfl)
theorem g_L_draw (T : Tx K mg) : mg "_law_draw" = some (.ref (He.ga K "_law_draw")) := let ⟨_, X, G⟩ := T.h; He.glo_ok X G (T.c.fact 21 rfl)
theorem g_L_pick (T : Tx K mg) : mg "_law_pick" = some (.ref (He.ga K "_law_pick")) := let ⟨_, X, G⟩ := T.h; He.glo_ok X G (T.c.fact 22 rfl)
theorem g_L_met (T : Tx K mg) : mg "_law_met" = some (.ref (He.ga K "_law_met")) := let ⟨_, X, G⟩ := T.h; He.glo_ok X G (T.c.fact 23 rfl)
theorem g_L_pairs (T : Tx K mg) : mg "_law_pairs" = some (.ref (He.ga K "_law_pairs")) := let ⟨_, X, G⟩ := T.h; He.glo_ok X G (T.c.fact 24 rfl)
theorem g_L_items (T : Tx K mg) : mg "_law_items" = some (.ref (He.ga K "_law_items")) := let ⟨_, X, G⟩ := T.h; He.glo_ok X G (T.c.fact 25 rfl)
theorem g_L_plain_told (T : Tx K mg) : mg "_law_plain_told" = some (.ref (He.ga K "_law_plain_told")) := let ⟨_, X, G⟩ := T.h; He.glo_ok X G (T.c.fact 26 rfl)
theorem g_L_applied (T : Tx K mg) : mg "_law_applied" = some (.ref (He.ga K "_law_applied")) := let ⟨_, X, G⟩ := T.h; He.glo_ok X G (T.c.fact 27 rfl)
theorem g_L_some_edit (T : Tx K mg) : mg "_law_some_edit" = some (.ref (He.ga K "_law_some_edit")) := let ⟨_, X, G⟩ := T.h; He.glo_ok X G (T.c.fact 28 rfl)
theorem g_L_line (T : Tx K mg) : mg "_law_line" = some (.ref (He.ga K "_law_line")) := let ⟨_, X, G⟩ := T.h; He.glo_ok X G (T.c.fact 29 rfl)
theorem g_L_through (T : Tx K mg) : mg "_law_through" = some (.ref (He.ga K "_law_through")) := let ⟨_, X, G⟩ := T.h; He.glo_ok X G (T.c.fact 30 rfl)
theorem g_law (T : Tx K mg) : mg "law" = some (.ref (He.ga K "law")) := let ⟨_, X, G⟩ := T.h; He.glo_ok X G (T.c.fact 31 rfl)
theorem g_WayError (T : Tx K mg) : mg "WayError" = some (.ref (He.ga K "WayError")) := let ⟨_, X, G⟩ := T.h; He.glo_ok X G (T.c.fact 32 rfl)
theorem g_BadSigns (T : Tx K mg) : mg "BadSigns" = some (.ref (He.ga K "BadSigns")) := let ⟨_, X, G⟩ := T.h; He.glo_ok X G (T.c.fact 33 rfl)
theorem g_BadWord (T : Tx K mg) : mg "BadWord" = some (.ref (He.ga K "BadWord")) := let ⟨_, X, G⟩ := T.h; He.glo_ok X G (T.c.fact 34 rfl)
theorem g_BadPaper (T : Tx K mg) : mg "BadPaper" = some (.ref (He.ga K "BadPaper")) := let ⟨_, X, G⟩ := T.h; He.glo_ok X G (T.c.fact 35 rfl)
theorem g_NotKept (T : Tx K mg) : mg "NotKept" = some (.ref (He.ga K "NotKept")) := let ⟨_, X, G⟩ := T.h; He.glo_ok X G (T.c.fact 36 rfl)
theorem g_Plain (T : Tx K mg) : mg "Plain" = some (.ref (He.ga K "Plain")) := let ⟨_, X, G⟩ := T.h; He.glo_ok X G (T.c.fact 37 rfl)
theorem z_ValueError (T : Tx K mg) : mg "ValueError" = none := let ⟨_, X, G⟩ := T.h; He.free_ok X G (T.c.fact 38 rfl)
theorem z_all (T : Tx K mg) : mg "all" = none := let ⟨_, X, G⟩ := T.h; He.free_ok X G (T.c.fact 39 rfl)
theorem z_int (T : Tx K mg) : mg "int" = none := let ⟨_, X, G⟩ := T.h; He.free_ok X G (T.c.fact 40 rfl)
theorem z_isinstance (T : Tx K mg) : mg "isinstance" = none := let ⟨_, X, G⟩ := T.h; He.free_ok X G (T.c.fact 41 rfl)
theorem z_len (T : Tx K mg) : mg "len" = none := let ⟨_, X, G⟩ := T.h; He.free_ok X G (T.c.fact 42 rfl)
theorem z_list (T : Tx K mg) : mg "list" = none := let ⟨_, X, G⟩ := T.h; He.free_ok X G (T.c.fact 43 rfl)
theorem z_min (T : Tx K mg) : mg "min" = none := let ⟨_, X, G⟩ := T.h; He.free_ok X G (T.c.fact 44 rfl)
theorem z_range (T : Tx K mg) : mg "range" = none := let ⟨_, X, G⟩ := T.h; He.free_ok X G (T.c.fact 45 rfl)
theorem z_str (T : Tx K mg) : mg "str" = none := let ⟨_, X, G⟩ := T.h; He.free_ok X G (T.c.fact 46 rfl)
theorem z_sum (T : Tx K mg) : mg "sum" = none := let ⟨_, X, G⟩ := T.h; He.free_ok X G (T.c.fact 47 rfl)
theorem z_tuple (T : Tx K mg) : mg "tuple" = none := let ⟨_, X, G⟩ := T.h; He.free_ok X G (T.c.fact 48 rfl)
theorem k_TEXT_SIGNS (T : Tx K mg) : ∃ u, mg "TEXT_SIGNS" = some u ∧ RelV (.str "abcdefghijklmnopqrstuvwxyz0123456789:;,=+") u := let ⟨_, X, G⟩ := T.h; let ⟨t, e⟩ := He.str_ok X G (T.c.fact 49 rfl); ⟨_, e, t, rfl⟩
theorem k_COUNT_SIGNS (T : Tx K mg) : ∃ u, mg "COUNT_SIGNS" = some u ∧ RelV (.str "0123456789") u := let ⟨_, X, G⟩ := T.h; let ⟨t, e⟩ := He.str_ok X G (T.c.fact 50 rfl); ⟨_, e, t, rfl⟩
theorem cl_Plain (T : Tx K mg) : Cls K (He.ga K "Plain") := He.cls_ok (T.c.fact 51 rfl)
theorem mk_Plain (T : Tx K mg) : Mk K (He.ga K "Plain") (He.ma K (He.ga K "Plain") "__init__") := He.mkr_ok (T.c.fact 52 rfl)
theorem me_Plain_init (T : Tx K mg) : Meth K (He.ga K "Plain") "__init__" (He.ma K (He.ga K "Plain") "__init__") := He.meth_ok (T.c.fact 53 rfl)
theorem me_Plain_close_gap (T : Tx K mg) : Meth K (He.ga K "Plain") "close_gap" (He.ma K (He.ga K "Plain") "close_gap") := He.meth_ok (T.c.fact 54 rfl)
theorem me_Plain_keep_signs (T : Tx K mg) : Meth K (He.ga K "Plain") "keep_signs" (He.ma K (He.ga K "Plain") "keep_signs") := He.meth_ok (T.c.fact 55 rfl)
theorem me_Plain_drop_signs (T : Tx K mg) : Meth K (He.ga K "Plain") "drop_signs" (He.ma K (He.ga K "Plain") "drop_signs") := He.meth_ok (T.c.fact 56 rfl)
theorem me_Plain_put_text (T : Tx K mg) : Meth K (He.ga K "Plain") "put_text" (He.ma K (He.ga K "Plain") "put_text") := He.meth_ok (T.c.fact 57 rfl)
theorem me_Plain_told (T : Tx K mg) : Meth K (He.ga K "Plain") "told" (He.ma K (He.ga K "Plain") "told") := He.meth_ok (T.c.fact 58 rfl)
theorem na_Plain_dropped (T : Tx K mg) : NoAttr K (He.ga K "Plain") "dropped" := He.noat_ok (T.c.fact 59 rfl)
theorem na_Plain_fresh (T : Tx K mg) : NoAttr K (He.ga K "Plain") "fresh" := He.noat_ok (T.c.fact 60 rfl)
theorem na_Plain_kept (T : Tx K mg) : NoAttr K (He.ga K "Plain") "kept" := He.noat_ok (T.c.fact 61 rfl)
theorem na_Plain_told_words (T : Tx K mg) : NoAttr K (He.ga K "Plain") "told_words" := He.noat_ok (T.c.fact 62 rfl)
theorem me_NotKept_init (T : Tx K mg) : Meth K (He.ga K "NotKept") "__init__" (He.ma K (He.ga K "NotKept") "__init__") := He.meth_ok (T.c.fact 63 rfl)
theorem na_NotKept_promise (T : Tx K mg) : NoAttr K (He.ga K "NotKept") "promise" := He.noat_ok (T.c.fact 64 rfl)
theorem na_NotKept_witness (T : Tx K mg) : NoAttr K (He.ga K "NotKept") "witness" := He.noat_ok (T.c.fact 65 rfl)
theorem xm_NotKept_NotKept (T : Tx K mg) : PySem.W.exmOne K (.ref (He.ga K "NotKept")) (.ref (He.ga K "NotKept")) = some true := He.exm_ok (T.c.fact 66 rfl)
theorem ox_NotKept (T : Tx K mg) : OexC K (He.ga K "NotKept") := _root_.T.oexB_ok (Bool.and_eq_true_iff.mp T.o).1
theorem xf_NotKept (T : Tx K mg) : XfC K (He.ga K "NotKept") := xfB_ok (Bool.and_eq_true_iff.mp T.o).2
end
end K75


namespace K75
open PySem PySem.Spec L2 T Ed
open PyProof.Rows hiding St
open C8 (Cal Mak Met pe_c pe_mk pe_mt pe_mt0 pe_gc)
/-! ### ground: signs, texts -/
def TS : List Nat := ("abcdefghijklmnopqrstuvwxyz0123456789:;,=+" : Str).cps.toList
def CS : List Nat := ("0123456789" : Str).cps.toList
theorem ts_eq : ("abcdefghijklmnopqrstuvwxyz0123456789:;,=+" : Str) = tx TS := by decide +kernel
theorem cs_eq : ("0123456789" : Str) = tx CS := by decide +kernel
structure Good (a : List Nat) : Prop where
  nd : a.Nodup
  lo : 1 ≤ a.length
  hi : a.length ≤ 10
  inn : ∀ c ∈ a, c ∈ TS
theorem ev_const {K : PySem.W.Frag} {σ : L2.St} {H : Hp} {x : Str} {a : List Nat} (e : x = tx a) : EvD K (tC (.str x)) σ H (.str (tx a)) := e ▸ ev_str
theorem all_map_id {α : Type} (l : List α) (p : α → Bool) : (l.map p).all id = l.all p := by
  rw [List.all_map]
  rfl
inductive R_are_signs : List PyData → PyData → Prop
  | mk (a : List Nat) (g : Good a) : R_are_signs [.str (tx a)] (.bool true)
abbrev sp_are_signs (K : PySem.W.Frag) : Sp := spD K R_are_signs
theorem len_are_signs {ds : List PyData} {d : PyData} (h : R_are_signs ds d) : ds.length = 1 := by cases h; rfl
section
variable {P : Program} {w : World} {K : PySem.W.Frag} {mg : Str → Option Value} {base : Heap}
theorem c_are_signs (T : Tx K mg) : Cal P w K mg base 1 "are_signs" (sp_are_signs K) [] := by
  obtain ⟨fd, F⟩ := T.c.def_ 4 (d := d_are_signs) rfl
  refine cal_of (k := 0) F (g_are_signs T) (F.bindsN fun _ _ _ _ _ _ us hl => match us, hl with | [_], _ => rfl) sc_are_signs (spD_len (by rintro ds d h; exact len_are_signs h)) fun cdv A outer s H vs Q E hr h => ⟨_, (pss_cons (ps_if (PW.pt (pw_or (pt_not (pt_val (pe_callB (uIsi K) (by rfl) (z_isinstance T) (by decide +kernel) (pa_cons (pv 0) (pa_cons (pe_bltn (v := .ty "str") (by rfl) (z_str T) (by decide +kernel) rfl) pa_nil))))) (pw_or (pt_not (pt_chain op_le op_le pe_int (pe_callB (uLen K) (by rfl) (z_len T) (by decide +kernel) (pa_cons (pv 0) pa_nil)) pe_int)) (pw_or1 (pt_not (pt_val (pe_callB (uAll K rfl) (by rfl) (z_all T) (by decide +kernel) (pa_cons (pe_lc (own := [("sign", 1)]) (by rfl) sc_are_signs.nd (pi_str (pv 0)) (blkOk_by (N := ["value", "sign"]) (sc := defScope s_are_signs) (by decide +kernel)) (fun _ _ _ _ _ => (pg_name (i := 1) sc_are_signs.nd rfl (Or.inl rfl))) (fun _ _ _ _ _ => pts_nil) (fun _ _ _ _ _ => (pe_cmpR (uIn K) (pv 1) (pe_gc (by rfl) (k_TEXT_SIGNS T)) (by rfl)))) pa_nil)))))))) (pss_one (ps_ret pe_bl)) pss_nil)
      (pss_one (ps_ret (pe_cmpR (uEq K hr.units) (pe_callB (uLen K) (by rfl) (z_len T) (by decide +kernel) (pa_cons (pe_dc (own := [("sign", 1)]) (by rfl) sc_are_signs.nd (pi_str (pv 0)) (blkOk_by (N := ["value", "sign"]) (sc := defScope s_are_signs) (by decide +kernel)) (fun _ _ _ _ _ => (pg_name (i := 1) sc_are_signs.nd rfl (Or.inl rfl))) (fun _ _ _ _ _ => pts_nil) (fun _ _ _ _ _ => (pv 1)) (fun _ _ _ _ _ => pe_bl)) pa_nil)) (pe_callB (uLen K) (by rfl) (z_len T) (by decide +kernel) (pa_cons (pv 0) pa_nil)) (nomark _))))), ?_⟩
  obtain ⟨ds, d, ⟨a, g⟩, hvs, q⟩ := h
  obtain ⟨x, rfl, hx⟩ := dda1 hvs
  have hz : a.length ≤ sizeLine := by have := g.hi; rw [sizeLine_eq]; omega
  have v0 : ∀ {σ : L2.St} {H' : Hp}, Same H H' → σ[0]? = some (some x) → EvD K (tVar 0) σ H' (.str (tx a)) := fun s e => ev_var e (dd_sm s _ _ hx)
  refine s_seq (s_ifF ((et_or (et_not (et_B (ev_isStr (v0 (.refl H) rfl)))) (fun _ => et_or (et_not (et_le_le (K := K) (i := 1) (k := 10) ev_int (ev_lenS (v0 (.refl H) rfl) hz) ev_int)) (fun _ => et_not (et_B ((ev_all (bs := a.map fun c => decide (c ∈ TS)) ((ev_lc1 (l := a) (fun c => .bool (decide (c ∈ TS))) (wk_str (v0 (.refl _) rfl)) (by have := g.hi; omega) (fun c hc => rfl) (fun c hc H' y s dy => ev_inS (ev_var rfl dy) (ev_const ts_eq))).toD.is (by rw [List.map_map]; rfl)))))))).is ?_) fun H2 s2 => ?_)
  · have h1 := g.lo
    have h2 := g.hi
    rw [decide_eq_true (show (1 : Int) ≤ (a.length : Nat) by omega), decide_eq_true (show ((a.length : Nat) : Int) ≤ 10 by omega), all_map_id, List.all_eq_true.mpr (fun c hc => decide_eq_true (g.inn c hc))]
    rfl
  · refine s_ret ((ev_eqI (ev_dcLen (v0 s2 rfl) g.nd (by have := g.hi; omega)) (ev_lenS (v0 s2 rfl) hz)).is (by rw [decide_eq_true rfl])) fun v H3 s3 dv => q v H3 (s2.trans s3) dv
end
theorem good_sz {a : List Nat} (g : Good a) : a.length ≤ sizeLine := by have := g.hi; rw [sizeLine_eq]; omega
inductive R_need_signs : List PyData → PyData → Prop
  | mk (a : List Nat) (g : Good a) : R_need_signs [.str (tx a)] .none
abbrev sp_need_signs (K : PySem.W.Frag) : Sp := spD K R_need_signs
theorem len_need_signs {ds : List PyData} {d : PyData} (h : R_need_signs ds d) : ds.length = 1 := by cases h; rfl
inductive R_is_text_in : List PyData → PyData → Prop
  | mk (a l : List Nat) (hl : l.length ≤ 100000) : R_is_text_in [.str (tx a), .str (tx l)] (.bool (l.all fun c => decide (c ∈ a)))
abbrev sp_is_text_in (K : PySem.W.Frag) : Sp := spD K R_is_text_in
theorem len_is_text_in {ds : List PyData} {d : PyData} (h : R_is_text_in ds d) : ds.length = 2 := by cases h; rfl
/-- a text over signs -/
structure Tex (a l : List Nat) : Prop where
  inn : ∀ c ∈ l, c ∈ a
  hi : l.length ≤ 1000
inductive R_need_text : List PyData → PyData → Prop
  | mk (a l : List Nat) (h : Tex a l) : R_need_text [.str (tx a), .str (tx l)] .none
abbrev sp_need_text (K : PySem.W.Frag) : Sp := spD K R_need_text
theorem len_need_text {ds : List PyData} {d : PyData} (h : R_need_text ds d) : ds.length = 2 := by cases h; rfl
theorem sz_of {n : Nat} (h : n ≤ 100000) : n ≤ sizeLine := by rw [sizeLine_eq]; omega
theorem tex_all {a l : List Nat} (h : Tex a l) : (l.all fun c => decide (c ∈ a)) = true := List.all_eq_true.mpr fun c hc => decide_eq_true (h.inn c hc)
section
variable {P : Program} {w : World} {K : PySem.W.Frag} {mg : Str → Option Value} {base : Heap}
theorem c_need_signs (T : Tx K mg) : Cal P w K mg base 2 "need_signs" (sp_need_signs K) [] := by
  obtain ⟨fd, F⟩ := T.c.def_ 5 (d := d_need_signs) rfl
  refine cal_of (k := 1) F (g_need_signs T) (F.bindsN fun _ _ _ _ _ _ us hl => match us, hl with | [_], _ => rfl) sc_need_signs (spD_len (by rintro ds d h; exact len_need_signs h)) fun cdv A outer s H vs Q E hr h => ⟨_, (pss_one (ps_if (pt_not (pt_val (pe_c (c_are_signs T) hr (by decide) (by rfl) (pa_cons (pv 0) pa_nil)))) (pss_one ps_never) pss_nil)), ?_⟩
  obtain ⟨ds, d, ⟨a, g⟩, hvs, q⟩ := h
  obtain ⟨x, rfl, hx⟩ := dda1 hvs
  exact s_ifF ((et_not (et_B (ev_call (ea_cons (ev_var rfl hx) ea_nil) (spD.of (R := R_are_signs) (.mk a g))))).is rfl) fun H2 s2 => q _ H2 s2 .non
theorem c_is_text_in (T : Tx K mg) : Cal P w K mg base 1 "is_text_in" (sp_is_text_in K) [] := by
  obtain ⟨fd, F⟩ := T.c.def_ 6 (d := d_is_text_in) rfl
  refine cal_of (k := 0) F (g_is_text_in T) (F.bindsN fun _ _ _ _ _ _ us hl => match us, hl with | [_, _], _ => rfl) sc_is_text_in (spD_len (by rintro ds d h; exact len_is_text_in h)) fun cdv A outer s H vs Q E hr h => ⟨_, (pss_one (ps_ret (pe_and (pe_callB (uIsi K) (by rfl) (z_isinstance T) (by decide +kernel) (pa_cons (pv 1) (pa_cons (pe_bltn (v := .ty "str") (by rfl) (z_str T) (by decide +kernel) rfl) pa_nil))) (pe_one (pe_callB (uAll K rfl) (by rfl) (z_all T) (by decide +kernel) (pa_cons (pe_lc (own := [("sign", 2)]) (by rfl) sc_is_text_in.nd (pi_str (pv 1)) (blkOk_by (N := ["signs", "value", "sign"]) (sc := defScope s_is_text_in) (by decide +kernel)) (fun _ _ _ _ _ => (pg_name (i := 2) sc_is_text_in.nd rfl (Or.inl rfl))) (fun _ _ _ _ _ => pts_nil) (fun _ _ _ _ _ => (pe_cmpR (uIn K) (pv 2) (pv 0) (by rfl)))) pa_nil)))))), ?_⟩
  obtain ⟨ds, d, ⟨a, l, hl⟩, hvs, q⟩ := h
  obtain ⟨x, y, rfl, hx, hy⟩ := dda2 hvs
  exact s_ret ((ev_andV (ev_isStr (ev_var rfl hy)) (fun _ => ev_all (bs := l.map fun c => decide (c ∈ a)) ((ev_lc1 (l := l) (fun c => .bool (decide (c ∈ a))) (wk_str (ev_var rfl hy)) (by omega) (fun c hc => rfl) (fun c hc H' z s dz => ev_inS (ev_var rfl dz) (ev_var rfl (dd_sm s _ _ hx)))).toD.is (by rw [List.map_map]; rfl)))).is (by rw [all_map_id]; rfl)) fun v H3 s3 dv => q v H3 s3 dv
theorem c_need_text (T : Tx K mg) : Cal P w K mg base 2 "need_text" (sp_need_text K) [] := by
  obtain ⟨fd, F⟩ := T.c.def_ 7 (d := d_need_text) rfl
  refine cal_of (k := 1) F (g_need_text T) (F.bindsN fun _ _ _ _ _ _ us hl => match us, hl with | [_, _], _ => rfl) sc_need_text (spD_len (by rintro ds d h; exact len_need_text h)) fun cdv A outer s H vs Q E hr h => ⟨_, (pss_one (ps_if (pt_not (pt_val (pe_c (c_is_text_in T) hr (by decide) (by rfl) (pa_cons (pv 0) (pa_cons (pv 1) pa_nil))))) (pss_one ps_never) pss_nil)), ?_⟩
  obtain ⟨ds, d, ⟨a, l, ht⟩, hvs, q⟩ := h
  obtain ⟨x, y, rfl, hx, hy⟩ := dda2 hvs
  exact s_ifF ((et_not (et_B (ev_call (ea_cons (ev_var rfl hx) (ea_cons (ev_var rfl hy) ea_nil)) (spD.of (R := R_is_text_in) (.mk a l (by have := ht.hi; omega)))))).is (by rw [tex_all ht]; rfl)) fun H2 s2 => q _ H2 s2 .non
end
/-! ### edits by their words -/
/-- the figures of a number -/
def dg (m : Nat) : List Nat := (Nat.toDigits 10 m).map Char.toNat
theorem tx_dg (m : Nat) : tx (dg m) = PySem.Str.ofString (toString ((m : Nat) : Int)) := by
  have h := PySem.W.KIN.signs_num m
  unfold tx dg
  rw [← h]
def wtx : Wd → List Nat
  | .k n => 107 :: dg n
  | .d n => 100 :: dg n
  | .p l => 112 :: l
def kd : Wd → List Nat
  | .k _ => [107] | .d _ => [100] | .p _ => [112]
def vl : Wd → PyData
  | .k n => .int (n : Nat) | .d n => .int (n : Nat) | .p l => .str (tx l)
def num : Wd → Nat
  | .k n => n | .d n => n | .p _ => 0
def wD (w : Wd) : PyData := .str (tx (wtx w))
def eD (ws : List Wd) : PyData := .tuple (ws.map wD)
theorem dg_ok : ∀ n : Fin 1000, 1 ≤ n.1 → (dg n.1).length ≤ 6 ∧ 1 ≤ (dg n.1).length ∧ (dg n.1).headD 0 ≠ 48 ∧ (dg n.1).all (fun c => decide (c ∈ CS)) = true := by decide +kernel
theorem dgl (n : Nat) (h : 1 ≤ n ∧ n ≤ 999) : (dg n).length ≤ 6 ∧ 1 ≤ (dg n).length ∧ (dg n).headD 0 ≠ 48 ∧ (dg n).all (fun c => decide (c ∈ CS)) = true := dg_ok ⟨n, by omega⟩ h.1
theorem wtx_len {a : List Nat} {w : Wd} (h : okW a w) : (wtx w).length ≤ 1001 ∧ 2 ≤ (wtx w).length := by
  cases w with
  | k n =>
    have := dgl n h
    show (dg n).length + 1 ≤ _ ∧ _ ≤ (dg n).length + 1
    omega
  | d n =>
    have := dgl n h
    show (dg n).length + 1 ≤ _ ∧ _ ≤ (dg n).length + 1
    omega
  | p l =>
    obtain ⟨h1, h2, h3⟩ := h
    have : l.length ≠ 0 := fun e => h1 (List.eq_nil_of_length_eq_zero e)
    show l.length + 1 ≤ _ ∧ _ ≤ l.length + 1
    omega
inductive R_is_edit_word : List PyData → PyData → Prop
  | mk (a : List Nat) (w : Wd) (h : okW a w) : R_is_edit_word [.str (tx a), wD w] (.bool true)
abbrev sp_is_edit_word (K : PySem.W.Frag) : Sp := spD K R_is_edit_word
theorem len_is_edit_word {ds : List PyData} {d : PyData} (h : R_is_edit_word ds d) : ds.length = 2 := by cases h; rfl
inductive R_is_edit_in : List PyData → PyData → Prop
  | mk (a : List Nat) (ws : List Wd) (h : OkE a ws) : R_is_edit_in [.str (tx a), eD ws] (.bool true)
abbrev sp_is_edit_in (K : PySem.W.Frag) : Sp := spD K R_is_edit_in
theorem len_is_edit_in {ds : List PyData} {d : PyData} (h : R_is_edit_in ds d) : ds.length = 2 := by cases h; rfl
inductive R_need_edit : List PyData → PyData → Prop
  | mk (a : List Nat) (g : Good a) (ws : List Wd) (h : OkE a ws) : R_need_edit [.str (tx a), eD ws] .none
abbrev sp_need_edit (K : PySem.W.Frag) : Sp := spD K R_need_edit
theorem len_need_edit {ds : List PyData} {d : PyData} (h : R_need_edit ds d) : ds.length = 2 := by cases h; rfl
def prD (w : Wd) : PyData := .tuple [.str (tx (kd w)), vl w]
inductive R_pairs_in : List PyData → List PyData → Prop
  | mk (a : List Nat) (ws : List Wd) (h : OkE a ws) : R_pairs_in [eD ws] (ws.map prD)
abbrev sp_pairs_in (K : PySem.W.Frag) : Sp := spN K R_pairs_in
theorem len_pairs_in {ds : List PyData} {d : List PyData} (h : R_pairs_in ds d) : ds.length = 1 := by cases h; rfl
theorem at0 {c : Nat} {l : List Nat} : atI (c :: l) 0 = some c := atI_nat (j := 0) rfl
theorem at1 {c d : Nat} {l : List Nat} : atI (c :: d :: l) 1 = some d := atI_nat (j := 1) rfl
theorem wtx_hd (w : Wd) : ∃ c l, wtx w = c :: l ∧ kd w = [c] := by cases w <;> exact ⟨_, _, rfl, rfl⟩
theorem int_of_dg {n : Nat} (h : n ≤ 999) : PySem.intText? (tx (dg n)) = some ((n : Nat) : Int) := by
  rw [tx_dg]
  exact PySem.W.KIN.num_reads (by omega) (by omega)
section
variable {P : Program} {w : World} {K : PySem.W.Frag} {mg : Str → Option Value} {base : Heap}
theorem c_is_edit_word (T : Tx K mg) : Cal P w K mg base 2 "is_edit_word" (sp_is_edit_word K) [] := by
  obtain ⟨fd, F⟩ := T.c.def_ 8 (d := d_is_edit_word) rfl
  refine cal_of (k := 1) F (g_is_edit_word T) (F.bindsN fun _ _ _ _ _ _ us hl => match us, hl with | [_, _], _ => rfl) sc_is_edit_word (spD_len (by rintro ds d h; exact len_is_edit_word h)) fun cdv A outer s H vs Q E hr h => ⟨_, (pss_cons (ps_if (PW.pt (pw_or (pt_not (pt_val (pe_callB (uIsi K) (by rfl) (z_isinstance T) (by decide +kernel) (pa_cons (pv 1) (pa_cons (pe_bltn (v := .ty "str") (by rfl) (z_str T) (by decide +kernel) rfl) pa_nil))))) (pw_or1 (pt_cmpR op_lt (pe_callB (uLen K) (by rfl) (z_len T) (by decide +kernel) (pa_cons (pv 1) pa_nil)) pe_int (nomark _))))) (pss_one (ps_ret pe_bl)) pss_nil)
      (pss_cons (ps_if (pt_cmpR (uEq K hr.units) (pe_ix (uIx K) (pv 1) pe_int (fun _ _ => rfl)) pe_str (nomark _)) (pss_one (ps_ret (pe_c (c_is_text_in T) hr (by decide) (by rfl) (pa_cons (pv 0) (pa_cons (pe_slice (uSl K) (pv 1) (po_some pe_int) po_none) pa_nil))))) pss_nil)
      (pss_cons (ps_if (PW.pt (pw_or (pt_cmpR (uNotIn K) (pe_ix (uIx K) (pv 1) pe_int (fun _ _ => rfl)) (pe_tup (pa_cons pe_str (pa_cons pe_str pa_nil))) (by rfl)) (pw_or (pt_cmpR op_gt (pe_callB (uLen K) (by rfl) (z_len T) (by decide +kernel) (pa_cons (pv 1) pa_nil)) pe_int (nomark _)) (pw_or1 (pt_cmpR (uEq K hr.units) (pe_ix (uIx K) (pv 1) pe_int (fun _ _ => rfl)) pe_str (nomark _)))))) (pss_one (ps_ret pe_bl)) pss_nil)
      (pss_one (ps_ret (pe_callB (uAll K rfl) (by rfl) (z_all T) (by decide +kernel) (pa_cons (pe_lc (own := [("sign", 2)]) (by rfl) sc_is_edit_word.nd (pi_str (pe_slice (uSl K) (pv 1) (po_some pe_int) po_none)) (blkOk_by (N := ["signs", "value", "sign"]) (sc := defScope s_is_edit_word) (by decide +kernel)) (fun _ _ _ _ _ => (pg_name (i := 2) sc_is_edit_word.nd rfl (Or.inl rfl))) (fun _ _ _ _ _ => pts_nil) (fun _ _ _ _ _ => (pe_cmpR (uIn K) (pv 2) (pe_gc (by rfl) (k_COUNT_SIGNS T)) (by rfl)))) pa_nil))))))), ?_⟩
  obtain ⟨ds, d, ⟨a, wd, hw⟩, hvs, q⟩ := h
  obtain ⟨x, y, rfl, hx, hy⟩ := dda2 hvs
  obtain ⟨hl1, hl2⟩ := wtx_len hw
  have vy : ∀ {σ : L2.St} {H' : Hp}, Same H H' → σ[1]? = some (some y) → EvD K (tVar 1) σ H' (.str (tx (wtx wd))) := fun s e => ev_var e (dd_sm s _ _ hy)
  have hz : (wtx wd).length ≤ sizeLine := sz_of (by omega)
  refine s_seq (s_ifF ((et_or (et_not (et_B (ev_isStr (vy (.refl H) rfl)))) (fun _ => et_test (ev_opI (fun _ => .bl _) (ev_lenS (vy (.refl H) rfl) hz) ev_int))).is ?_) fun H2 s2 => ?_)
  · rw [decide_eq_false (show ¬ ((wtx wd).length : Nat) < (2 : Int) by omega)]
    rfl
  obtain ⟨c, l, e1, e2⟩ := wtx_hd wd
  have hat : atI (wtx wd) 0 = some c := by rw [e1]; exact at0
  cases wd with
  | p l' =>
    obtain ⟨h1, h2, h3⟩ := hw
    refine s_seq (s_ifT ((et_test (ev_eqS (b := [112]) (ev_ixS (vy s2 rfl) ev_int hz hat) (ev_const (by decide +kernel)))).is ?_) fun H3 s3 => ?_)
    · cases e2
      exact decide_eq_true rfl
    · refine s_ret ((ev_call (ea_cons (ev_var rfl (dd_sm (s2.trans s3) _ _ hx)) (ea_cons (ev_slS (vy (s2.trans s3) rfl) eo_int eo_none hz) ea_nil)) (spD.of (R := R_is_text_in) (.mk a _ ?_))).is ?_) fun v H4 s4 dv => q v H4 ((s2.trans s3).trans s4) dv
      · rw [show cut (wtx (.p l')) (some 1) none = l' from cut_from (112 :: l') 1]
        omega
      · rw [show cut (wtx (.p l')) (some 1) none = l' from cut_from (112 :: l') 1, List.all_eq_true.mpr fun c hc => decide_eq_true (h2 c hc)]
  | k n =>
    obtain ⟨d1, d2, d3, d4⟩ := dgl n hw
    refine s_seq (s_ifF ((et_test (ev_eqS (b := [112]) (ev_ixS (vy s2 rfl) ev_int hz hat) (ev_const (by decide +kernel)))).is ?_) fun H3 s3 => ?_)
    · cases e2
      exact decide_eq_false (by decide)
    have s23 := s2.trans s3
    obtain ⟨d0, dr, ed⟩ : ∃ d0 dr, dg n = d0 :: dr := by
      cases e : dg n with
      | nil => rw [e] at d2; simp at d2
      | cons a b => exact ⟨a, b, rfl⟩
    have hat1 : atI (wtx (.k n)) 1 = some d0 := by rw [show wtx (.k n) = 107 :: d0 :: dr by rw [← ed]; rfl]; exact at1
    refine s_seq (s_ifF ((et_or (et_test (ev_ninT2 (b := [107]) (c := [100]) (ev_ixS (vy s23 rfl) ev_int hz hat) (ev_tup (ea_cons (ev_const (by decide +kernel)) (ea_cons (ev_const (by decide +kernel)) ea_nil)) (by decide)))) (fun _ => et_or (et_test (ev_opI (fun _ => .bl _) (ev_lenS (vy s23 rfl) hz) ev_int)) (fun _ => et_test (ev_eqS (b := [48]) (ev_ixS (vy s23 rfl) ev_int hz hat1) (ev_const (by decide +kernel)))))).is ?_) fun H4 s4 => ?_)
    · cases e2
      rw [decide_eq_true rfl, Bool.true_or, decide_eq_false (show ¬ (7 : Int) < ((wtx (.k n)).length : Nat) by show ¬ (7 : Int) < (((dg n).length + 1 : Nat) : Int); omega), decide_eq_false (by rw [ed] at d3; intro e; cases e; exact d3 rfl)]
      rfl
    · have s24 := s23.trans s4
      refine s_ret ((ev_all (bs := (dg n).map fun c => decide (c ∈ CS)) ((ev_lc1 (l := dg n) (gi := sgn) (fun c => .bool (decide (c ∈ CS))) ((wk_str (ev_slS (vy s24 rfl) eo_int eo_none hz)).is (by rw [show cut (wtx (.k n)) (some 1) none = dg n from cut_from (107 :: dg n) 1])) (by omega) (fun c hc => rfl) (fun c hc H' z s dz => ev_inS (ev_var rfl dz) (ev_const cs_eq))).toD.is (by rw [List.map_map]; rfl))).is (by rw [all_map_id, d4])) fun v H4 s5 dv => q v H4 (s24.trans s5) dv
  | d n =>
    obtain ⟨d1, d2, d3, d4⟩ := dgl n hw
    refine s_seq (s_ifF ((et_test (ev_eqS (b := [112]) (ev_ixS (vy s2 rfl) ev_int hz hat) (ev_const (by decide +kernel)))).is ?_) fun H3 s3 => ?_)
    · cases e2
      exact decide_eq_false (by decide)
    have s23 := s2.trans s3
    obtain ⟨d0, dr, ed⟩ : ∃ d0 dr, dg n = d0 :: dr := by
      cases e : dg n with
      | nil => rw [e] at d2; simp at d2
      | cons a b => exact ⟨a, b, rfl⟩
    have hat1 : atI (wtx (.d n)) 1 = some d0 := by rw [show wtx (.d n) = 100 :: d0 :: dr by rw [← ed]; rfl]; exact at1
    refine s_seq (s_ifF ((et_or (et_test (ev_ninT2 (b := [107]) (c := [100]) (ev_ixS (vy s23 rfl) ev_int hz hat) (ev_tup (ea_cons (ev_const (by decide +kernel)) (ea_cons (ev_const (by decide +kernel)) ea_nil)) (by decide)))) (fun _ => et_or (et_test (ev_opI (fun _ => .bl _) (ev_lenS (vy s23 rfl) hz) ev_int)) (fun _ => et_test (ev_eqS (b := [48]) (ev_ixS (vy s23 rfl) ev_int hz hat1) (ev_const (by decide +kernel)))))).is ?_) fun H4 s4 => ?_)
    · cases e2
      rw [decide_eq_true (show [100] = [100] from rfl), Bool.or_true, decide_eq_false (show ¬ (7 : Int) < ((wtx (.d n)).length : Nat) by show ¬ (7 : Int) < (((dg n).length + 1 : Nat) : Int); omega), decide_eq_false (by rw [ed] at d3; intro e; cases e; exact d3 rfl)]
      rfl
    · have s24 := s23.trans s4
      refine s_ret ((ev_all (bs := (dg n).map fun c => decide (c ∈ CS)) ((ev_lc1 (l := dg n) (gi := sgn) (fun c => .bool (decide (c ∈ CS))) ((wk_str (ev_slS (vy s24 rfl) eo_int eo_none hz)).is (by rw [show cut (wtx (.d n)) (some 1) none = dg n from cut_from (100 :: dg n) 1])) (by omega) (fun c hc => rfl) (fun c hc H' z s dz => ev_inS (ev_var rfl dz) (ev_const cs_eq))).toD.is (by rw [List.map_map]; rfl))).is (by rw [all_map_id, d4])) fun v H4 s5 dv => q v H4 (s24.trans s5) dv
theorem c_is_edit_in (T : Tx K mg) : Cal P w K mg base 3 "is_edit_in" (sp_is_edit_in K) [] := by
  obtain ⟨fd, F⟩ := T.c.def_ 9 (d := d_is_edit_in) rfl
  refine cal_of (k := 2) F (g_is_edit_in T) (F.bindsN fun _ _ _ _ _ _ us hl => match us, hl with | [_, _], _ => rfl) sc_is_edit_in (spD_len (by rintro ds d h; exact len_is_edit_in h)) fun cdv A outer s H vs Q E hr h => ⟨_, (pss_one (ps_ret (pe_and (pe_callB (uIsi K) (by rfl) (z_isinstance T) (by decide +kernel) (pa_cons (pv 1) (pa_cons (pe_bltn (v := .ty "tuple") (by rfl) (z_tuple T) (by decide +kernel) rfl) pa_nil))) (pe_one (pe_callB (uAll K rfl) (by rfl) (z_all T) (by decide +kernel) (pa_cons (pe_lc (own := [("word", 2)]) (by rfl) sc_is_edit_in.nd (uPiTup K (pv 1)) (blkOk_by (N := ["signs", "value", "word"]) (sc := defScope s_is_edit_in) (by decide +kernel)) (fun _ _ _ _ _ => (pg_name (i := 2) sc_is_edit_in.nd rfl (Or.inl rfl))) (fun _ _ _ _ _ => pts_nil) (fun _ _ _ _ _ => (pe_c (c_is_edit_word T) hr (by decide) (by rfl) (pa_cons (pv 0) (pa_cons (pv 2) pa_nil))))) pa_nil)))))), ?_⟩
  obtain ⟨ds, d, ⟨a, ws, hw⟩, hvs, q⟩ := h
  obtain ⟨x, y, rfl, hx, hy⟩ := dda2 hvs
  exact s_ret ((ev_andV (ev_isTup (ev_var rfl hy)) (fun _ => ev_all (bs := ws.map fun _ => true) ((ev_lc1 (l := ws) (fun _ => .bool true) (wk_tup (ev_var rfl hy)) (by have := hw.hi; omega) (fun c hc => rfl) (fun c hc H' z s dz => ev_call (ea_cons (ev_var rfl (dd_sm s _ _ hx)) (ea_cons (ev_var rfl dz) ea_nil)) (spD.of (R := R_is_edit_word) (.mk a c (hw.ok c hc))))).toD.is (by rw [List.map_map]; rfl)))).is (by rw [all_map_id, List.all_eq_true.mpr fun _ _ => rfl]; rfl)) fun v H3 s3 dv => q v H3 s3 dv
theorem c_need_edit (T : Tx K mg) : Cal P w K mg base 4 "need_edit" (sp_need_edit K) [] := by
  obtain ⟨fd, F⟩ := T.c.def_ 11 (d := d_need_edit) rfl
  refine cal_of (k := 3) F (g_need_edit T) (F.bindsN fun _ _ _ _ _ _ us hl => match us, hl with | [_, _], _ => rfl) sc_need_edit (spD_len (by rintro ds d h; exact len_need_edit h)) fun cdv A outer s H vs Q E hr h => ⟨_, (pss_cons (ps_expr (pe_c (c_need_signs T) hr (by decide) (by rfl) (pa_cons (pv 0) pa_nil)))
      (pss_one (ps_if (pt_not (pt_val (pe_c (c_is_edit_in T) hr (by decide) (by rfl) (pa_cons (pv 0) (pa_cons (pv 1) pa_nil))))) (pss_one ps_never) pss_nil))), ?_⟩
  obtain ⟨ds, d, ⟨a, g, ws, hw⟩, hvs, q⟩ := h
  obtain ⟨x, y, rfl, hx, hy⟩ := dda2 hvs
  exact s_seq (s_drop (ev_call (ea_cons (ev_var rfl hx) ea_nil) (spD.of (R := R_need_signs) (.mk a g))) fun H2 s2 => s_ifF ((et_not (et_B (ev_call (ea_cons (ev_var rfl (dd_sm s2 _ _ hx)) (ea_cons (ev_var rfl (dd_sm s2 _ _ hy)) ea_nil)) (spD.of (R := R_is_edit_in) (.mk a ws hw))))).is rfl) fun H3 s3 => q _ H3 (s2.trans s3) .non)
theorem c_pairs_in (T : Tx K mg) : Cal P w K mg base 1 "pairs_in" (sp_pairs_in K) [] := by
  obtain ⟨fd, F⟩ := T.c.def_ 10 (d := d_pairs_in) rfl
  refine cal_of (k := 0) F (g_pairs_in T) (F.bindsN fun _ _ _ _ _ _ us hl => match us, hl with | [_], _ => rfl) sc_pairs_in (spN_len (by rintro ds d h; exact len_pairs_in h)) fun cdv A outer s H vs Q E hr h => ⟨_, (pss_one (ps_ret (pe_lc (own := [("word", 1)]) (by rfl) sc_pairs_in.nd (uPiTup K (pv 0)) (blkOk_by (N := ["edit", "word"]) (sc := defScope s_pairs_in) (by decide +kernel)) (fun _ _ _ _ _ => (pg_name (i := 1) sc_pairs_in.nd rfl (Or.inl rfl))) (fun _ _ _ _ _ => pts_nil) (fun _ _ _ _ _ => (pe_tup (pa_cons (pe_ix (uIx K) (pv 1) pe_int (fun _ _ => rfl)) (pa_cons (pe_ifExp (pt_cmpR (uEq K hr.units) (pe_ix (uIx K) (pv 1) pe_int (fun _ _ => rfl)) pe_str (nomark _)) (pe_slice (uSl K) (pv 1) (po_some pe_int) po_none) (pe_callTy (uInt) (by rfl) (z_int T) (by decide +kernel) (pa_cons (pe_slice (uSl K) (pv 1) (po_some pe_int) po_none) pa_nil))) pa_nil))))))), ?_⟩
  obtain ⟨ds, d, ⟨a, ws, hw⟩, hvs, q⟩ := h
  obtain ⟨y, rfl, hy⟩ := dda1 hvs
  refine s_retL (ev_lc1 (l := ws) prD (wk_tup (ev_var rfl hy)) (by have := hw.hi; omega) (fun c hc => by cases c <;> rfl) fun c hc H' z s dz => ?_) q
  have hok := hw.ok c hc
  obtain ⟨hl1, hl2⟩ := wtx_len hok
  have hz : (wtx c).length ≤ sizeLine := sz_of (by omega)
  obtain ⟨c0, l0, e1, e2⟩ := wtx_hd c
  have hat : atI (wtx c) 0 = some c0 := by rw [e1]; exact at0
  have hix : EvD K _ _ H' (.str (tx (kd c))) := (ev_ixS (σ := (wipe [some y, none] [1]).set 1 (some z)) (ev_var (i := 1) rfl dz) ev_int hz hat).is (by rw [e2])
  refine ev_tup (ea_cons hix (ea_cons (ev_if (et_test (ev_eqS (b := [112]) hix (ev_const (by decide +kernel)))) ?_ ?_) ea_nil)) (by show 2 ≤ sizeLine; decide)
  · intro hb
    cases c with
    | p l => exact (ev_slS (ev_var rfl dz) eo_int eo_none hz).is (by rw [show cut (wtx (.p l)) (some 1) none = l from cut_from (112 :: l) 1]; rfl)
    | k n => exact absurd (show ([107] : List Nat) = [112] from of_decide_eq_true hb) (by decide)
    | d n => exact absurd (show ([100] : List Nat) = [112] from of_decide_eq_true hb) (by decide)
  · intro hb
    cases c with
    | p l => exact absurd rfl (of_decide_eq_false hb)
    | k n =>
      refine ev_intS ((ev_slS (ev_var rfl dz) eo_int eo_none hz).is (by rw [show cut (wtx (.k n)) (some 1) none = dg n from cut_from (107 :: dg n) 1])) (int_of_dg hok.2) ?_
      rw [tx_len]
      have := dgl n hok
      omega
    | d n =>
      refine ev_intS ((ev_slS (ev_var rfl dz) eo_int eo_none hz).is (by rw [show cut (wtx (.d n)) (some 1) none = dg n from cut_from (100 :: dg n) 1])) (int_of_dg hok.2) ?_
      rw [tx_len]
      have := dgl n hok
      omega
end
end K75


namespace K75
open PySem PySem.Spec L2 T Ed
open PyProof.Rows hiding St
open C8 (Cal Mak Met pe_c pe_mk pe_mt pe_mt0 pe_gc)
/-! ### sizes and costs -/
theorem sum_filter {f : Wd → Nat} {p : Wd → Bool} : ∀ {ws : List Wd}, (∀ w ∈ ws, p w = false → f w = 0) → ((ws.filter p).map fun w => ((f w : Nat) : Int)).sum = (((ws.map f).sum : Nat) : Int)
  | [], _ => rfl
  | w :: ws, h => by
    have ih := sum_filter (f := f) (p := p) (ws := ws) fun x hx => h x (List.mem_cons_of_mem _ hx)
    cases hp : p w with
    | true =>
      rw [List.filter_cons_of_pos hp, List.map_cons, List.sum_cons, List.map_cons, List.sum_cons, ih]
      omega
    | false =>
      rw [List.filter_cons_of_neg (by simp [hp]), List.map_cons, List.sum_cons, ih, h w List.mem_cons_self hp]
      omega
inductive R_taken_by : List PyData → PyData → Prop
  | mk (a : List Nat) (ws : List Wd) (h : OkE a ws) : R_taken_by [eD ws] (.int (taken ws : Nat))
abbrev sp_taken_by (K : PySem.W.Frag) : Sp := spD K R_taken_by
theorem len_taken_by {ds : List PyData} {d : PyData} (h : R_taken_by ds d) : ds.length = 1 := by cases h; rfl
inductive R_left_by : List PyData → PyData → Prop
  | mk (a : List Nat) (ws : List Wd) (h : OkE a ws) : R_left_by [eD ws] (.int (lefts ws : Nat))
abbrev sp_left_by (K : PySem.W.Frag) : Sp := spD K R_left_by
theorem len_left_by {ds : List PyData} {d : PyData} (h : R_left_by ds d) : ds.length = 1 := by cases h; rfl
inductive R_edit_sizes : List PyData → PyData → Prop
  | mk (a : List Nat) (g : Good a) (ws : List Wd) (h : OkE a ws) : R_edit_sizes [.str (tx a), eD ws] (.tuple [.int (taken ws : Nat), .int (lefts ws : Nat)])
abbrev sp_edit_sizes (K : PySem.W.Frag) : Sp := spD K R_edit_sizes
theorem len_edit_sizes {ds : List PyData} {d : PyData} (h : R_edit_sizes ds d) : ds.length = 2 := by cases h; rfl
inductive R_edit_cost : List PyData → PyData → Prop
  | mk (a : List Nat) (g : Good a) (ws : List Wd) (h : OkE a ws) : R_edit_cost [.str (tx a), eD ws] (.int (costs ws : Nat))
abbrev sp_edit_cost (K : PySem.W.Frag) : Sp := spD K R_edit_cost
theorem len_edit_cost {ds : List PyData} {d : PyData} (h : R_edit_cost ds d) : ds.length = 2 := by cases h; rfl

section
variable {P : Program} {w : World} {K : PySem.W.Frag} {mg : Str → Option Value} {base : Heap}
theorem c_taken_by (T : Tx K mg) : Cal P w K mg base 2 "taken_by" (sp_taken_by K) [] := by
  obtain ⟨fd, F⟩ := T.c.def_ 12 (d := d_taken_by) rfl
  refine cal_of (k := 1) F (g_taken_by T) (F.bindsN fun _ _ _ _ _ _ us hl => match us, hl with | [_], _ => rfl) sc_taken_by (spD_len (by rintro ds d h; exact len_taken_by h)) fun cdv A outer s H vs Q E hr h => ⟨_, (pss_one (ps_ret (pe_callB (uSum K rfl) (by rfl) (z_sum T) (by decide +kernel) (pa_cons (pe_lc (own := [("word", 1), ("value", 2)]) (by rfl) sc_taken_by.nd (uPiList K (pe_c (c_pairs_in T) hr (by decide) (by rfl) (pa_cons (pv 0) pa_nil))) (blkOk_by (N := ["edit", "word", "value"]) (sc := defScope s_taken_by) (by decide +kernel)) (fun _ _ _ _ _ => (uPgTup (n := 2) K (by rfl) (pgs_cons (pg_name (i := 1) sc_taken_by.nd rfl (Or.inl rfl)) (pgs_cons (pg_name (i := 2) sc_taken_by.nd rfl (Or.inl rfl)) pgs_nil)))) (fun _ _ _ _ _ => pts_one (pt_cmpR (uNe K hr.units) (pv 1) pe_str (nomark _))) (fun _ _ _ _ _ => (pv 2))) pa_nil)))), ?_⟩
  obtain ⟨ds, d, ⟨a, ws, hw⟩, hvs, q⟩ := h
  obtain ⟨y, rfl, hy⟩ := dda1 hvs
  refine s_ret ((ev_sum (ns := (ws.filter fun w => !decide (kd w = [112])).map fun w => ((takW w : Nat) : Int)) ((ev_lc2f (l := ws) (g1 := fun w => .str (tx (kd w))) (g2 := vl) (fun w => !decide (kd w = [112])) (fun w => .int (takW w : Nat)) (wk_listL (el_call (ea_cons (ev_var rfl hy) ea_nil) (spN.of (R := R_pairs_in) (.mk a ws hw)))) (by have := hw.hi; omega) (fun c hc _ => rfl) (fun c hc H' x z s dx dz => et_test (ev_neS (ev_var rfl dx) (ev_const (by decide +kernel)))) (fun c hc H' x z s dx dz hp => (ev_var (i := 2) (d := .int (takW c : Nat)) rfl ?_))).toD.is (by rw [List.map_map]; rfl))).is ?_) fun v H3 s3 dv => q v H3 s3 dv
  · cases c with
    | k n => exact dz
    | d n => exact dz
    | p l => exact absurd rfl (of_decide_eq_false (Bool.not_eq_true' _ ▸ hp))
  · rw [sum_filter (f := takW)]
    · rfl
    · intro w _ hp
      cases w with
      | k n => exact absurd (show ([107] : List Nat) = [112] from of_decide_eq_true (Bool.not_eq_false' _ ▸ hp)) (by decide)
      | d n => exact absurd (show ([100] : List Nat) = [112] from of_decide_eq_true (Bool.not_eq_false' _ ▸ hp)) (by decide)
      | p l => rfl
theorem c_left_by (T : Tx K mg) : Cal P w K mg base 2 "left_by" (sp_left_by K) [] := by
  obtain ⟨fd, F⟩ := T.c.def_ 13 (d := d_left_by) rfl
  refine cal_of (k := 1) F (g_left_by T) (F.bindsN fun _ _ _ _ _ _ us hl => match us, hl with | [_], _ => rfl) sc_left_by (spD_len (by rintro ds d h; exact len_left_by h)) fun cdv A outer s H vs Q E hr h => ⟨_, (pss_one (ps_ret (pe_callB (uSum K rfl) (by rfl) (z_sum T) (by decide +kernel) (pa_cons (pe_lc (own := [("word", 1), ("value", 2)]) (by rfl) sc_left_by.nd (uPiList K (pe_c (c_pairs_in T) hr (by decide) (by rfl) (pa_cons (pv 0) pa_nil))) (blkOk_by (N := ["edit", "word", "value"]) (sc := defScope s_left_by) (by decide +kernel)) (fun _ _ _ _ _ => (uPgTup (n := 2) K (by rfl) (pgs_cons (pg_name (i := 1) sc_left_by.nd rfl (Or.inl rfl)) (pgs_cons (pg_name (i := 2) sc_left_by.nd rfl (Or.inl rfl)) pgs_nil)))) (fun _ _ _ _ _ => pts_one (pt_cmpR (uNe K hr.units) (pv 1) pe_str (nomark _))) (fun _ _ _ _ _ => (pe_ifExp (pt_cmpR (uEq K hr.units) (pv 1) pe_str (nomark _)) (pe_callB (uLen K) (by rfl) (z_len T) (by decide +kernel) (pa_cons (pv 2) pa_nil)) (pv 2)))) pa_nil)))), ?_⟩
  obtain ⟨ds, d, ⟨a, ws, hw⟩, hvs, q⟩ := h
  obtain ⟨y, rfl, hy⟩ := dda1 hvs
  refine s_ret ((ev_sum (ns := (ws.filter fun w => !decide (kd w = [100])).map fun w => ((lefW w : Nat) : Int)) ((ev_lc2f (l := ws) (g1 := fun w => .str (tx (kd w))) (g2 := vl) (fun w => !decide (kd w = [100])) (fun w => .int (lefW w : Nat)) (wk_listL (el_call (ea_cons (ev_var rfl hy) ea_nil) (spN.of (R := R_pairs_in) (.mk a ws hw)))) (by have := hw.hi; omega) (fun c hc _ => rfl) (fun c hc H' x z s dx dz => et_test (ev_neS (ev_var rfl dx) (ev_const (by decide +kernel)))) (fun c hc H' x z s dx dz hp => ev_if (et_test (ev_eqS (b := [112]) (ev_var rfl dx) (ev_const (by decide +kernel)))) (fun hb => ?_) (fun hb => ev_var (i := 2) (d := .int (lefW c : Nat)) rfl ?_))).toD.is (by rw [List.map_map]; rfl))).is ?_) fun v H3 s3 dv => q v H3 s3 dv
  · cases c with
    | k n => exact absurd (show ([107] : List Nat) = [112] from of_decide_eq_true hb) (by decide)
    | d n => exact absurd (show ([100] : List Nat) = [112] from of_decide_eq_true hb) (by decide)
    | p l => exact ev_lenS (ev_var rfl dz) (sz_of (by have := (hw.ok _ hc).2.2; omega))
  · cases c with
    | k n => exact dz
    | d n => exact absurd rfl (of_decide_eq_false (Bool.not_eq_true' _ ▸ hp))
    | p l => exact absurd rfl (of_decide_eq_false hb)
  · rw [sum_filter (f := lefW)]
    · rfl
    · intro w _ hp
      cases w with
      | k n => exact absurd (show ([107] : List Nat) = [100] from of_decide_eq_true (Bool.not_eq_false' _ ▸ hp)) (by decide)
      | d n => rfl
      | p l => exact absurd (show ([112] : List Nat) = [100] from of_decide_eq_true (Bool.not_eq_false' _ ▸ hp)) (by decide)
theorem c_edit_sizes (T : Tx K mg) : Cal P w K mg base 5 "edit_sizes" (sp_edit_sizes K) [] := by
  obtain ⟨fd, F⟩ := T.c.def_ 14 (d := d_edit_sizes) rfl
  refine cal_of (k := 4) F (g_edit_sizes T) (F.bindsN fun _ _ _ _ _ _ us hl => match us, hl with | [_, _], _ => rfl) sc_edit_sizes (spD_len (by rintro ds d h; exact len_edit_sizes h)) fun cdv A outer s H vs Q E hr h => ⟨_, (pss_cons (ps_expr (pe_c (c_need_edit T) hr (by decide) (by rfl) (pa_cons (pv 0) (pa_cons (pv 1) pa_nil))))
      (pss_one (ps_ret (pe_tup (pa_cons (pe_c (c_taken_by T) hr (by decide) (by rfl) (pa_cons (pv 1) pa_nil)) (pa_cons (pe_c (c_left_by T) hr (by decide) (by rfl) (pa_cons (pv 1) pa_nil)) pa_nil)))))), ?_⟩
  obtain ⟨ds, d, ⟨a, g, ws, hw⟩, hvs, q⟩ := h
  obtain ⟨x, y, rfl, hx, hy⟩ := dda2 hvs
  refine s_seq (s_drop (ev_call (ea_cons (ev_var rfl hx) (ea_cons (ev_var rfl hy) ea_nil)) (spD.of (R := R_need_edit) (.mk a g ws hw))) fun H2 s2 => ?_)
  exact s_ret (ev_tup (ea_cons (ev_call (ea_cons (ev_var rfl (dd_sm s2 _ _ hy)) ea_nil) (spD.of (R := R_taken_by) (.mk a ws hw))) (ea_cons (ev_call (ea_cons (ev_var rfl (dd_sm s2 _ _ hy)) ea_nil) (spD.of (R := R_left_by) (.mk a ws hw))) ea_nil)) (by show 2 ≤ sizeLine; decide)) fun v H3 s3 dv => q v H3 (s2.trans s3) dv
end
end K75


namespace K75
open PySem PySem.Spec L2 T Ed
open PyProof.Rows hiding St
open C8 (Cal Mak Met pe_c pe_mk pe_mt pe_mt0 pe_gc)
/-! ### the class Plain -/
def fsP (l : Addr) (s : PS) : List (Str × V) := [("told_words", .ref l), ("kept", .int (s.k : Nat)), ("dropped", .int (s.d : Nat)), ("fresh", .str (tx s.f))]
theorem n1 : (("kept" : Str) == "told_words") = false := by decide +kernel
theorem n2 : (("dropped" : Str) == "told_words") = false := by decide +kernel
theorem n3 : (("dropped" : Str) == "kept") = false := by decide +kernel
theorem n4 : (("fresh" : Str) == "told_words") = false := by decide +kernel
theorem n5 : (("fresh" : Str) == "kept") = false := by decide +kernel
theorem n6 : (("fresh" : Str) == "dropped") = false := by decide +kernel
theorem lkW (l : Addr) (s : PS) : (fsP l s).lookup ("told_words" : Str) = some (.ref l) := by simp [fsP, List.lookup]
theorem lkK (l : Addr) (s : PS) : (fsP l s).lookup ("kept" : Str) = some (.int (s.k : Nat)) := by simp [fsP, List.lookup, n1]
theorem lkD (l : Addr) (s : PS) : (fsP l s).lookup ("dropped" : Str) = some (.int (s.d : Nat)) := by simp [fsP, List.lookup, n2, n3]
theorem lkF (l : Addr) (s : PS) : (fsP l s).lookup ("fresh" : Str) = some (.str (tx s.f)) := by simp [fsP, List.lookup, n4, n5, n6]
theorem m1 : ¬ (("told_words" : Str) = "kept") := by decide +kernel
theorem m2 : ¬ (("told_words" : Str) = "dropped") := by decide +kernel
theorem m3 : ¬ (("kept" : Str) = "dropped") := by decide +kernel
theorem m4 : ¬ (("told_words" : Str) = "fresh") := by decide +kernel
theorem m5 : ¬ (("kept" : Str) = "fresh") := by decide +kernel
theorem m6 : ¬ (("dropped" : Str) = "fresh") := by decide +kernel
theorem putFK (l : Addr) (s : PS) (n : Nat) : putF "kept" (.int (n : Nat)) (fsP l s) = fsP l { s with k := n } := by
  unfold fsP
  simp only [putF, if_neg m1, if_true]
theorem putFD (l : Addr) (s : PS) (n : Nat) : putF "dropped" (.int (n : Nat)) (fsP l s) = fsP l { s with d := n } := by
  unfold fsP
  simp only [putF, if_neg m2, if_neg m3, if_true]
theorem putFF (l : Addr) (s : PS) (z : List Nat) : putF "fresh" (.str (tx z)) (fsP l s) = fsP l { s with f := z } := by
  unfold fsP
  simp only [putF, if_neg m4, if_neg m5, if_neg m6, if_true]
/-- a Plain stands at x, its list at l -/
structure PlAt (C : Addr) (H : Hp) (x l : Addr) (s : PS) : Prop where
  ob : ∃ dx, H x = some (.ins C dx (fsP l s))
  ws : H l = some (.lst (s.ws.map fun w => .str (tx (wtx w))))
theorem PlAt.ne {C : Addr} {H : Hp} {x l : Addr} {s : PS} (h : PlAt C H x l s) : x ≠ l := by
  obtain ⟨dx, e⟩ := h.ob
  exact ne_of e h.ws (by intro z; cases z)
theorem PlAt.same {C : Addr} {H H' : Hp} {x l : Addr} {s : PS} (h : PlAt C H x l s) (e : Same H H') : PlAt C H' x l s := by
  obtain ⟨dx, e1⟩ := h.ob
  exact ⟨⟨dx, e _ _ e1⟩, e _ _ h.ws⟩
/-- all but x and l is kept -/
def Sx (x l : Addr) (H H' : Hp) : Prop := ∀ b o, H b = some o → b ≠ x → b ≠ l → H' b = some o
theorem Sx.refl (x l : Addr) (H : Hp) : Sx x l H H := fun _ _ h _ _ => h
theorem Sx.trans {x l : Addr} {H H1 H2 : Hp} (a : Sx x l H H1) (b : Sx x l H1 H2) : Sx x l H H2 := fun c o h n1 n2 => b c o (a c o h n1 n2) n1 n2
theorem Sx.of {x l : Addr} {H H1 : Hp} (a : Same H H1) : Sx x l H H1 := fun c o h _ _ => a c o h
theorem Sx.putX {x l : Addr} {H H1 : Hp} {o : HO} (a : Sx x l H H1) : Sx x l H (upd H1 x o) := fun c u h h1 h2 => by
  rw [upd_ne h1]
  exact a c u h h1 h2
theorem Sx.putL {x l : Addr} {H H1 : Hp} {o : HO} (a : Sx x l H H1) : Sx x l H (upd H1 l o) := fun c u h h1 h2 => by
  rw [upd_ne h2]
  exact a c u h h1 h2
/-- tuples are kept where x and l hold none -/
theorem Sx.ts {C : Addr} {x l : Addr} {H H1 : Hp} {s : PS} (a : Sx x l H H1) (p : PlAt C H x l s) : Ts H H1 := fun b xs r => by
  obtain ⟨dx, e⟩ := p.ob
  rcases r with r | ⟨ob, r⟩
  · exact .inl (a b _ r (ne_of r e (by intro z; cases z)) (ne_of r p.ws (by intro z; cases z)))
  · exact .inr ⟨ob, a b _ r (ne_of r e (by intro z; cases z)) (ne_of r p.ws (by intro z; cases z))⟩
section
variable {K : PySem.W.Frag} {mg : Str → Option Value} {σ : L2.St} {H H' : Hp} {te ta : TE} {d : PyData}
/-- a field -/
theorem ev_fldP (T : Tx K mg) {i : Nat} {x l : Addr} {s : PS} {f : Str} {v : V} (hi : σ[i]? = some (some (.ref x))) (h : PlAt (He.ga K "Plain") H x l s) (hn : NoAttr K (He.ga K "Plain") f) (hf : (fsP l s).lookup f = some v) (hd : Dd K H v d) : EvD K (tFld K (tVar i) f) σ H d := fun H1 s1 Q q => by
  obtain ⟨dx, e⟩ := h.ob
  exact ⟨_, hi, x, _, dx, _, v, rfl, s1 _ _ e, cl_Plain T, hn, hf, q _ _ (.refl _) (dd_sm s1 _ _ hd)⟩
theorem ev_fldK (T : Tx K mg) {i : Nat} {x l : Addr} {s : PS} (hi : σ[i]? = some (some (.ref x))) (h : PlAt (He.ga K "Plain") H x l s) : EvD K (tFld K (tVar i) "kept") σ H (.int (s.k : Nat)) := ev_fldP T hi h (na_Plain_kept T) (lkK l s) (.int _)
theorem ev_fldD (T : Tx K mg) {i : Nat} {x l : Addr} {s : PS} (hi : σ[i]? = some (some (.ref x))) (h : PlAt (He.ga K "Plain") H x l s) : EvD K (tFld K (tVar i) "dropped") σ H (.int (s.d : Nat)) := ev_fldP T hi h (na_Plain_dropped T) (lkD l s) (.int _)
theorem ev_fldF (T : Tx K mg) {i : Nat} {x l : Addr} {s : PS} (hi : σ[i]? = some (some (.ref x))) (h : PlAt (He.ga K "Plain") H x l s) : EvD K (tFld K (tVar i) "fresh") σ H (.str (tx s.f)) := ev_fldP T hi h (na_Plain_fresh T) (lkF l s) (.str _)
theorem dda_wds : ∀ {ws : List Wd}, DdA K H (ws.map fun w => V.str (tx (wtx w))) (ws.map wD)
  | [] => .nil
  | w :: ws => .cons (.str _) dda_wds
/-- plain.told_words.append(a text) -/
theorem s_appP (T : Tx K mg) {D : Ends} {i : Nat} {x l : Addr} {s : PS} {wd : Wd} (hi : σ[i]? = some (some (.ref x))) (h : PlAt (He.ga K "Plain") H x l s) (he : EvD K te σ H (.str (tx (wtx wd)))) (hz : s.ws.length ≤ 100000)
    (k : ∀ H1, PlAt (He.ga K "Plain") H1 x l { s with ws := s.ws ++ [wd] } → Sx x l H H1 → D.nx σ H1) : tDrop (tBM K "list" rAppend (tFld K (tVar i) "told_words") (tCons te tNil)) D σ H := by
  obtain ⟨dx, e⟩ := h.ob
  refine ⟨_, hi, x, _, dx, _, .ref l, rfl, e, cl_Plain T, na_Plain_told_words T, lkW l s, .inl ⟨rfl, _, .of h.ws⟩, he H (.refl _) _ fun v H1 s1 dv => ⟨l, _, v, rfl, rfl, s1 _ _ h.ws, ?_, k _ ⟨⟨dx, ?_⟩, ?_⟩ (Sx.putL (.of s1))⟩⟩
  · rw [List.length_map, sizeLine_eq]
    omega
  · rw [upd_ne h.ne]
    exact s1 _ _ e
  · rw [upd_same, dd_str dv, List.map_append]
    rfl
theorem log_small {n : Nat} (h : n ≤ 1000000) : ((n : Nat) : Int).natAbs.log2 < 1920 := by
  rw [Int.natAbs_natCast]
  by_cases h0 : n = 0
  · subst h0
    decide
  · have : Nat.log2 n < 20 := (Nat.log2_lt h0).mpr (by omega)
    omega
theorem ev_word (c : Nat) {n : Nat} (x : Str) (ex : x = tx [c]) (h : EvD K te σ H (.int (n : Nat))) (hn : n ≤ 1000000) (hz : (dg n).length ≤ 100000) : EvD K (tOp (rAddU K) (tC (.str x)) (tCB rStrI (tCons te tNil))) σ H (.str (tx (c :: dg n))) := by
  refine (ev_addS (a := [c]) (b := dg n) (ev_const ex) ((ev_strI h (log_small hn)).is (by rw [tx_dg])) ?_).is rfl
  rw [sizeLine_eq]
  show 1 + _ ≤ _
  omega
end
end K75


namespace K75
open PySem PySem.Spec L2 T Ed
open PyProof.Rows hiding St
open C8 (Cal Mak Met pe_c pe_mk pe_mt pe_mt0 pe_gc)
/-! ### the methods of Plain -/
theorem dg_len (n : Nat) (h : n < 1000000) : (dg n).length ≤ 6 := by
  have h1 : (dg n).length = (Nat.toDigits 10 n).length := List.length_map ..
  rw [h1]
  exact (Nat.length_toDigits_le_iff (by decide) (by decide)).mpr h
theorem len_putF {f : Str} {y : V} {fs : List (Str × V)} {n : Nat} (h : fs.length ≤ n) : (putF f y fs).length ≤ n + 1 := by
  have := length_putF f y fs
  omega
theorem putFK0 (l : Addr) (s : PS) : putF "kept" (.int 0) (fsP l s) = fsP l { s with k := 0 } := putFK l s 0
theorem putFD0 (l : Addr) (s : PS) : putF "dropped" (.int 0) (fsP l s) = fsP l { s with d := 0 } := putFD l s 0
theorem putFKa (l : Addr) (s : PS) (n : Nat) : putF "kept" (.int (((s.k : Nat) : Int) + ((n : Nat) : Int))) (fsP l s) = fsP l { s with k := s.k + n } := by
  rw [show (((s.k : Nat) : Int) + ((n : Nat) : Int)) = ((s.k + n : Nat) : Int) by omega, putFK]
theorem putFDa (l : Addr) (s : PS) (n : Nat) : putF "dropped" (.int (((s.d : Nat) : Int) + ((n : Nat) : Int))) (fsP l s) = fsP l { s with d := s.d + n } := by
  rw [show (((s.d : Nat) : Int) + ((n : Nat) : Int)) = ((s.d + n : Nat) : Int) by omega, putFD]
theorem lkNo {m : Str} (l : Addr) (s : PS) (h : ((m == "told_words") || (m == "kept") || (m == "dropped") || (m == "fresh")) = false) : (fsP l s).lookup m = none := by
  simp only [Bool.or_eq_false_iff] at h
  obtain ⟨⟨⟨h1, h2⟩, h3⟩, h4⟩ := h
  simp [fsP, List.lookup, h1, h2, h3, h4]
theorem putFFa (l : Addr) (s : PS) (z : List Nat) : putF "fresh" (.str (tx s.f ++ tx z)) (fsP l s) = fsP l { s with f := s.f ++ z } := by rw [tx_app, putFF]
abbrev sp_Plain_init (K : PySem.W.Frag) : Sp := fun vs H Q _ => ∃ x dx, vs = [.ref x] ∧ H x = some (.ins (He.ga K "Plain") dx []) ∧ ∀ H' l, H l = none → PlAt (He.ga K "Plain") H' x l PS.nil → (∀ b o, H b = some o → b ≠ x → H' b = some o) → Q .non H'
/-- a method of Plain that turns its state -/
abbrev spP (K : PySem.W.Frag) (B : Nat) (g : PS → PS) : Sp := fun vs H Q _ => ∃ x l s, vs = [.ref x] ∧ PlAt (He.ga K "Plain") H x l s ∧ s.size ≤ B ∧ ∀ H', PlAt (He.ga K "Plain") H' x l (g s) → Sx x l H H' → Q .non H'
abbrev sp_Plain_close_gap (K : PySem.W.Frag) : Sp := spP K 100000 PS.close
abbrev sp_Plain_keep_signs (K : PySem.W.Frag) : Sp := fun vs H Q _ => ∃ x l s, ∃ n : Nat, vs = [.ref x, .int n] ∧ PlAt (He.ga K "Plain") H x l s ∧ s.size ≤ 100000 ∧ ∀ H', PlAt (He.ga K "Plain") H' x l (s.keep n) → Sx x l H H' → Q .non H'
abbrev sp_Plain_drop_signs (K : PySem.W.Frag) : Sp := fun vs H Q _ => ∃ x l s, ∃ n : Nat, vs = [.ref x, .int n] ∧ PlAt (He.ga K "Plain") H x l s ∧ ∀ H', PlAt (He.ga K "Plain") H' x l (s.drop n) → Sx x l H H' → Q .non H'
abbrev sp_Plain_put_text (K : PySem.W.Frag) : Sp := fun vs H Q _ => ∃ x l s z, vs = [.ref x, .str (tx z)] ∧ PlAt (He.ga K "Plain") H x l s ∧ s.f.length + z.length ≤ 16000000 ∧ ∀ H', PlAt (He.ga K "Plain") H' x l (s.put z) → Sx x l H H' → Q .non H'
abbrev sp_Plain_told (K : PySem.W.Frag) : Sp := fun vs H Q _ => ∃ x l s, vs = [.ref x] ∧ PlAt (He.ga K "Plain") H x l s ∧ s.size ≤ 100000 ∧ ∀ v H', Dd K H' v (eD s.told) → Sx x l H H' → Q v H'
section
variable {P : Program} {w : World} {K : PySem.W.Frag} {mg : Str → Option Value} {base : Heap}
theorem m_Plain (T : Tx K mg) : Mak P w K mg base 1 "Plain" (He.ga K "Plain") (sp_Plain_init K) [] := by
  obtain ⟨fd, F⟩ := T.c.def_ 15 (d := d_Plain_init) rfl
  refine mak_of (k := 0) (mk_Plain T) (g_Plain T) F (F.bindsN fun _ _ _ _ _ _ us hl => match us, hl with | [_], _ => rfl) sc_Plain_init (fun vs H Q E h => by obtain ⟨x, dx, rfl, _⟩ := h; rfl) fun cdv A outer s H vs Q E hr h => ⟨_, (pss_cons (ps_fld (pv 0) (pe_lst pa_nil) rfl)
      (pss_cons (ps_fld (pv 0) pe_int rfl)
      (pss_cons (ps_fld (pv 0) pe_int rfl)
      (pss_one (ps_fld (pv 0) pe_str rfl))))), ?_⟩
  obtain ⟨x, dx, rfl, e, q⟩ := h
  refine s_seq ?_
  refine ⟨Nat.zero_le _, fun l hl => ?_⟩
  have nxl : x ≠ l := ne_of_none e hl
  refine ⟨_, rfl, x, _, dx, [], rfl, by rw [upd_ne nxl]; exact e, cl_Plain T, na_Plain_told_words T, by decide, ?_⟩
  refine s_seq ⟨_, rfl, x, _, dx, _, rfl, upd_same, cl_Plain T, na_Plain_kept T, Nat.lt_of_le_of_lt (len_putF (Nat.le_refl 0)) (by decide), ?_⟩
  refine s_seq ⟨_, rfl, x, _, dx, _, rfl, upd_same, cl_Plain T, na_Plain_dropped T, Nat.lt_of_le_of_lt (len_putF (len_putF (Nat.le_refl 0))) (by decide), ?_⟩
  refine ⟨_, rfl, x, _, dx, _, rfl, upd_same, cl_Plain T, na_Plain_fresh T, Nat.lt_of_le_of_lt (len_putF (len_putF (len_putF (Nat.le_refl 0)))) (by decide), ?_⟩
  refine q _ l hl ⟨⟨dx, ?_⟩, ?_⟩ fun b o hb hn => ?_
  · rw [upd_same]
    have e0 : (Str.ofString "" : Str) = tx [] := by decide +kernel
    rw [show (putF "fresh" (V.str "") (putF "dropped" (V.int 0) (putF "kept" (V.int 0) (putF "told_words" (V.ref l) [])))) = fsP l PS.nil by
      simp only [putF, if_neg m1, if_neg m2, if_neg m3, if_neg m4, if_neg m5, if_neg m6]
      rw [e0]
      rfl]
    rfl
  · rw [upd_ne nxl.symm, upd_ne nxl.symm, upd_ne nxl.symm, upd_ne nxl.symm, upd_same]
    rfl
  · rw [upd_ne hn, upd_ne hn, upd_ne hn, upd_ne hn, upd_ne (ne_of_none hb hl)]
    exact hb
theorem m_Plain_close_gap (T : Tx K mg) : Met P w K mg base 1 (He.ga K "Plain") "close_gap" (sp_Plain_close_gap K) [] := by
  obtain ⟨fd, F⟩ := T.c.def_ 16 (d := d_Plain_close_gap) rfl
  refine met_of (k := 0) (cl_Plain T) (me_Plain_close_gap T) F (F.bindsN fun _ _ _ _ _ _ us hl => match us, hl with | [_], _ => rfl) sc_Plain_close_gap (fun vs H Q E h => by obtain ⟨x, l, s, rfl, _⟩ := h; rfl) fun cdv A outer s H vs Q E hr h => ⟨_, (pss_cons (ps_if (uPtTruth K (uFld K (pv 0))) (pss_one (ps_expr (pe_bm PySem.F.plainAttrs_list PySem.F.slot_list_append PySem.F.type_list_append mt_append (uFld K (pv 0)) (pa_cons (pe_op (uAdd K) pe_str (pe_callTy (uStr) (by rfl) (z_str T) (by decide +kernel) (pa_cons (uFld K (pv 0)) pa_nil))) pa_nil)))) pss_nil)
      (pss_cons (ps_if (uPtTruth K (uFld K (pv 0))) (pss_one (ps_expr (pe_bm PySem.F.plainAttrs_list PySem.F.slot_list_append PySem.F.type_list_append mt_append (uFld K (pv 0)) (pa_cons (pe_op (uAdd K) pe_str (pe_callTy (uStr) (by rfl) (z_str T) (by decide +kernel) (pa_cons (uFld K (pv 0)) pa_nil))) pa_nil)))) pss_nil)
      (pss_cons (ps_if (uPtTruth K (uFld K (pv 0))) (pss_one (ps_expr (pe_bm PySem.F.plainAttrs_list PySem.F.slot_list_append PySem.F.type_list_append mt_append (uFld K (pv 0)) (pa_cons (pe_op (uAdd K) pe_str (uFld K (pv 0))) pa_nil)))) pss_nil)
      (pss_one (ps_asg (pe_tup (pa_cons pe_int (pa_cons pe_int (pa_cons pe_str pa_nil)))) (uPgTup (n := 3) K (by rfl) (pgs_cons (uPgFld K (pv 0)) (pgs_cons (uPgFld K (pv 0)) (pgs_cons (uPgFld K (pv 0)) pgs_nil))))))))), ?_⟩
  obtain ⟨x, l, st, rfl, hp, hz, q⟩ := h
  have hsz := hz
  unfold PS.size at hsz
  have hi : (L2.start ["self"] [V.ref x])[0]? = some (some (.ref x)) := rfl
  have step1 : ∀ (D : Ends), (∀ H1, PlAt (He.ga K "Plain") H1 x l { st with ws := st.ws ++ (if st.k = 0 then [] else [.k st.k]) } → Sx x l H H1 → D.nx (L2.start ["self"] [V.ref x]) H1) →
      tIfS (fun σ H Q => tFld K (tVar 0) "kept" σ H fun x H' => ∃ k, TruV K x H' k ∧ Q k H') (tDrop (tBM K "list" rAppend (tFld K (tVar 0) "told_words") (tCons (tOp (rAddU K) (tC (.str "k")) (tCB rStrI (tCons (tFld K (tVar 0) "kept") tNil))) tNil))) tNext D (L2.start ["self"] [V.ref x]) H := fun D kk => by
    refine s_if (et_truI (ev_fldK T hi hp)) (fun hb H1 s1 => ?_) fun hb H1 s1 => ?_
    · have hk : st.k ≠ 0 := by simpa using hb
      refine s_appP T (wd := .k st.k) hi (hp.same s1) (ev_word 107 "k" (by decide +kernel) (ev_fldK T hi (hp.same s1)) (by omega) (by have := dg_len st.k (by omega); omega)) (by omega) fun H2 p2 sx => ?_
      rw [if_neg hk] at kk
      exact kk H2 p2 ((Sx.of s1).trans sx)
    · have hk : st.k = 0 := by simpa using hb
      rw [if_pos hk] at kk
      refine kk H1 ?_ (Sx.of s1)
      rw [List.append_nil]
      exact hp.same s1
  have step2 : ∀ (D : Ends) (H1 : Hp) (t : PS), PlAt (He.ga K "Plain") H1 x l t → t.d = st.d → t.ws.length ≤ 100000 → (∀ H2, PlAt (He.ga K "Plain") H2 x l { t with ws := t.ws ++ (if t.d = 0 then [] else [.d t.d]) } → Sx x l H1 H2 → D.nx (L2.start ["self"] [V.ref x]) H2) →
      tIfS (fun σ H Q => tFld K (tVar 0) "dropped" σ H fun x H' => ∃ k, TruV K x H' k ∧ Q k H') (tDrop (tBM K "list" rAppend (tFld K (tVar 0) "told_words") (tCons (tOp (rAddU K) (tC (.str "d")) (tCB rStrI (tCons (tFld K (tVar 0) "dropped") tNil))) tNil))) tNext D (L2.start ["self"] [V.ref x]) H1 := fun D H1 t p1 ed hl kk => by
    refine s_if (et_truI (ev_fldD T hi p1)) (fun hb H2 s1 => ?_) fun hb H2 s1 => ?_
    · have hk : t.d ≠ 0 := by simpa using hb
      refine s_appP T (wd := .d t.d) hi (p1.same s1) (ev_word 100 "d" (by decide +kernel) (ev_fldD T hi (p1.same s1)) (by omega) (by have := dg_len t.d (by omega); omega)) (by omega) fun H2 p2 sx => ?_
      rw [if_neg hk] at kk
      exact kk H2 p2 ((Sx.of s1).trans sx)
    · have hk : t.d = 0 := by simpa using hb
      rw [if_pos hk] at kk
      refine kk H2 ?_ (Sx.of s1)
      rw [List.append_nil]
      exact p1.same s1
  have step3 : ∀ (D : Ends) (H1 : Hp) (t : PS), PlAt (He.ga K "Plain") H1 x l t → t.f = st.f → t.ws.length ≤ 100000 → (∀ H2, PlAt (He.ga K "Plain") H2 x l { t with ws := t.ws ++ (if t.f = [] then [] else [.p t.f]) } → Sx x l H1 H2 → D.nx (L2.start ["self"] [V.ref x]) H2) →
      tIfS (fun σ H Q => tFld K (tVar 0) "fresh" σ H fun x H' => ∃ k, TruV K x H' k ∧ Q k H') (tDrop (tBM K "list" rAppend (tFld K (tVar 0) "told_words") (tCons (tOp (rAddU K) (tC (.str "p")) (tFld K (tVar 0) "fresh")) tNil))) tNext D (L2.start ["self"] [V.ref x]) H1 := fun D H1 t p1 ed hl kk => by
    refine s_if (et_truS (ev_fldF T hi p1) (sz_of (by rw [ed]; omega))) (fun hb H2 s1 => ?_) fun hb H2 s1 => ?_
    · have hk : t.f ≠ [] := fun e => by
        rw [e] at hb
        exact absurd hb (by decide)
      refine s_appP T (wd := .p t.f) hi (p1.same s1) ((ev_addS (a := [112]) (b := t.f) (ev_const (by decide +kernel)) (ev_fldF T hi (p1.same s1)) (by rw [sizeLine_eq]; show 1 + _ ≤ _; rw [ed]; omega)).is rfl) (by omega) fun H2 p2 sx => ?_
      rw [if_neg hk] at kk
      exact kk H2 p2 ((Sx.of s1).trans sx)
    · have hk : t.f = [] := by
        cases e : t.f with
        | nil => rfl
        | cons a b =>
          rw [e] at hb
          exact absurd hb (by simp; omega)
      rw [if_pos hk] at kk
      refine kk H2 ?_ (Sx.of s1)
      rw [List.append_nil]
      exact p1.same s1
  have l1 : (if st.k = 0 then ([] : List Wd) else [.k st.k]).length ≤ 1 := by split <;> simp
  have l2 : (if st.d = 0 then ([] : List Wd) else [.d st.d]).length ≤ 1 := by split <;> simp
  have l1' : (if st.k = 0 then ([] : List Wd) else [.k st.k]).length ≤ st.k := by split <;> simp <;> omega
  have l2' : (if st.d = 0 then ([] : List Wd) else [.d st.d]).length ≤ st.d := by split <;> simp <;> omega
  refine s_seq (step1 _ fun H1 p1 sx1 => ?_)
  refine s_seq (step2 _ H1 _ p1 rfl (by show (st.ws ++ _).length ≤ _; rw [List.length_append]; omega) fun H2 p2 sx2 => ?_)
  refine s_seq (step3 _ H2 _ p2 rfl (by show (st.ws ++ (if st.k = 0 then ([] : List Wd) else [.k st.k]) ++ (if st.d = 0 then ([] : List Wd) else [.d st.d])).length ≤ _; rw [List.length_append, List.length_append]; omega) fun H3 p3 sx3 => ?_)
  refine ⟨by show 3 ≤ sizeLine; decide, fun p hpn => ?_⟩
  obtain ⟨dx, e3⟩ := p3.ob
  have nxp : x ≠ p := ne_of_none e3 hpn
  have nlp : l ≠ p := ne_of_none p3.ws hpn
  refine ⟨p, _, rfl, .of upd_same, rfl, _, _, rfl, ⟨_, rfl, x, _, dx, _, rfl, by rw [upd_ne nxp]; exact e3, cl_Plain T, na_Plain_kept T, by show 4 < 1000; decide, _, _, rfl, ⟨_, rfl, x, _, dx, _, rfl, upd_same, cl_Plain T, na_Plain_dropped T, ?_, _, _, rfl, ⟨_, rfl, x, _, dx, _, rfl, upd_same, cl_Plain T, na_Plain_fresh T, ?_, rfl, ?_⟩⟩⟩⟩
  · rw [putFK0]
    show 4 < 1000
    decide
  · rw [putFK0, putFD0]
    show 4 < 1000
    decide
  · have e0 : (Str.ofString "" : Str) = tx [] := by decide +kernel
    refine q _ ⟨⟨dx, ?_⟩, ?_⟩ (Sx.putX (Sx.putX (Sx.putX (((sx1.trans sx2).trans sx3).trans (Sx.of (sm_new hpn))))))
    · rw [upd_same, putFK0, putFD0, e0, putFF]
      rfl
    · rw [upd_ne p3.ne.symm, upd_ne p3.ne.symm, upd_ne p3.ne.symm, upd_ne nlp]
      exact p3.ws
theorem m_Plain_keep_signs (T : Tx K mg) : Met P w K mg base 2 (He.ga K "Plain") "keep_signs" (sp_Plain_keep_signs K) [] := by
  obtain ⟨fd, F⟩ := T.c.def_ 17 (d := d_Plain_keep_signs) rfl
  refine met_of (k := 1) (cl_Plain T) (me_Plain_keep_signs T) F (F.bindsN fun _ _ _ _ _ _ us hl => match us, hl with | [_, _], _ => rfl) sc_Plain_keep_signs (fun vs H Q E h => by obtain ⟨x, l, s, n, rfl, _⟩ := h; rfl) fun cdv A outer s H vs Q E hr h => ⟨_, (pss_cons (ps_if (PW.pt (pw_or (uPtTruth K (uFld K (pv 0))) (pw_or1 (uPtTruth K (uFld K (pv 0)))))) (pss_one (ps_expr (pe_mt0 (m_Plain_close_gap T) hr (by decide) (pv 0)))) pss_nil)
      (pss_one (ps_fldaug (pv 0) (pv 1) uInAdd))), ?_⟩
  obtain ⟨x, l, st, n, rfl, hp, hz, q⟩ := h
  have hi : (L2.start ["self", "n"] [V.ref x, .int n])[0]? = some (some (.ref x)) := rfl
  have fin : ∀ H1, PlAt (He.ga K "Plain") H1 x l st.gap → Sx x l H H1 → sFldAug K (tVar 0) (tVar 1) rIAddU "kept" { nx := fun _ H' => Q .non H', rt := Q } (L2.start ["self", "n"] [V.ref x, .int n]) H1 := fun H1 p1 sx => by
    obtain ⟨dx, e1⟩ := p1.ob
    refine ⟨_, rfl, x, _, dx, _, _, rfl, e1, cl_Plain T, na_Plain_kept T, lkK l _, _, rfl, .inl ⟨_, _, rfl, rfl, dx, _, e1, by show 4 < 1000; decide, ?_⟩⟩
    refine q _ ⟨⟨dx, ?_⟩, ?_⟩ (Sx.putX sx)
    · exact upd_same.trans (congrArg (fun z => some (HO.ins (He.ga K "Plain") dx z)) (putFKa l st.gap n))
    · rw [upd_ne p1.ne.symm]
      exact p1.ws
  refine s_seq (s_if (et_or (et_truI (ev_fldD T hi hp)) (fun _ => et_truS (ev_fldF T hi hp) (sz_of (by unfold PS.size at hz; omega)))) (fun hb H1 s1 => ?_) fun hb H1 s1 => ?_)
  · have hg : st.gap = st.close := if_neg fun ⟨e1, e2⟩ => by
      rw [e1, e2] at hb
      exact absurd hb (by decide)
    obtain ⟨dx, e1⟩ := (hp.same s1).ob
    exact ⟨_, hi, x, dx, _, rfl, e1, lkNo l st (by decide +kernel), x, l, st, rfl, hp.same s1, hz, fun H2 p2 sx => fin H2 (by rw [hg]; exact p2) ((Sx.of s1).trans sx)⟩
  · have hg : st.gap = st := if_pos ⟨by
      have := (Bool.or_eq_false_iff.mp hb).1
      simpa using this, by
      have := (Bool.or_eq_false_iff.mp hb).2
      cases e : st.f with
      | nil => rfl
      | cons a b =>
        rw [e] at this
        exact absurd this (by simp; omega)⟩
    exact fin H1 (by rw [hg]; exact hp.same s1) (Sx.of s1)
theorem m_Plain_drop_signs (T : Tx K mg) : Met P w K mg base 1 (He.ga K "Plain") "drop_signs" (sp_Plain_drop_signs K) [] := by
  obtain ⟨fd, F⟩ := T.c.def_ 18 (d := d_Plain_drop_signs) rfl
  refine met_of (k := 0) (cl_Plain T) (me_Plain_drop_signs T) F (F.bindsN fun _ _ _ _ _ _ us hl => match us, hl with | [_, _], _ => rfl) sc_Plain_drop_signs (fun vs H Q E h => by obtain ⟨x, l, s, n, rfl, _⟩ := h; rfl) fun cdv A outer s H vs Q E hr h => ⟨_, (pss_one (ps_fldaug (pv 0) (pv 1) uInAdd)), ?_⟩
  obtain ⟨x, l, st, n, rfl, p1, q⟩ := h
  obtain ⟨dx, e1⟩ := p1.ob
  refine ⟨_, rfl, x, _, dx, _, _, rfl, e1, cl_Plain T, na_Plain_dropped T, lkD l _, _, rfl, .inl ⟨_, _, rfl, rfl, dx, _, e1, by show 4 < 1000; decide, ?_⟩⟩
  refine q _ ⟨⟨dx, ?_⟩, ?_⟩ (Sx.putX (Sx.refl x l H))
  · exact upd_same.trans (congrArg (fun z => some (HO.ins (He.ga K "Plain") dx z)) (putFDa l st n))
  · rw [upd_ne p1.ne.symm]
    exact p1.ws
theorem m_Plain_put_text (T : Tx K mg) : Met P w K mg base 1 (He.ga K "Plain") "put_text" (sp_Plain_put_text K) [] := by
  obtain ⟨fd, F⟩ := T.c.def_ 19 (d := d_Plain_put_text) rfl
  refine met_of (k := 0) (cl_Plain T) (me_Plain_put_text T) F (F.bindsN fun _ _ _ _ _ _ us hl => match us, hl with | [_, _], _ => rfl) sc_Plain_put_text (fun vs H Q E h => by obtain ⟨x, l, s, n, rfl, _⟩ := h; rfl) fun cdv A outer s H vs Q E hr h => ⟨_, (pss_one (ps_fldaug (pv 0) (pv 1) uInAdd)), ?_⟩
  obtain ⟨x, l, st, z, rfl, p1, hz, q⟩ := h
  obtain ⟨dx, e1⟩ := p1.ob
  refine ⟨_, rfl, x, _, dx, _, _, rfl, e1, cl_Plain T, na_Plain_fresh T, lkF l _, _, rfl, .inr ⟨_, _, rfl, rfl, by rw [tx_len, tx_len, sizeLine_eq]; omega, dx, _, e1, by show 4 < 1000; decide, ?_⟩⟩
  refine q _ ⟨⟨dx, ?_⟩, ?_⟩ (Sx.putX (Sx.refl x l H))
  · exact upd_same.trans (congrArg (fun z => some (HO.ins (He.ga K "Plain") dx z)) (putFFa l st z))
  · rw [upd_ne p1.ne.symm]
    exact p1.ws
theorem m_Plain_told (T : Tx K mg) : Met P w K mg base 2 (He.ga K "Plain") "told" (sp_Plain_told K) [] := by
  obtain ⟨fd, F⟩ := T.c.def_ 20 (d := d_Plain_told) rfl
  refine met_of (k := 1) (cl_Plain T) (me_Plain_told T) F (F.bindsN fun _ _ _ _ _ _ us hl => match us, hl with | [_], _ => rfl) sc_Plain_told (fun vs H Q E h => by obtain ⟨x, l, s, rfl, _⟩ := h; rfl) fun cdv A outer s H vs Q E hr h => ⟨_, (pss_cons (ps_expr (pe_mt0 (m_Plain_close_gap T) hr (by decide) (pv 0)))
      (pss_one (ps_ret (pe_callTy (uTuple K) (by rfl) (z_tuple T) (by decide +kernel) (pa_cons (uFld K (pv 0)) pa_nil))))), ?_⟩
  obtain ⟨x, l, st, rfl, hp, hz, q⟩ := h
  obtain ⟨dx, e1⟩ := hp.ob
  refine s_seq ⟨_, rfl, x, dx, _, rfl, e1, lkNo l st (by decide +kernel), x, l, st, rfl, hp, hz, fun H2 p2 sx => ?_⟩
  refine s_ret (ev_tupleL (ds := st.told.map wD) (ev_fldP T rfl p2 (na_Plain_told_words T) (lkW l _) (.lst p2.ws dda_wds))) fun v H3 s3 dv => q v H3 dv (sx.trans (Sx.of s3))
end
end K75


namespace K75
open PySem PySem.Spec L2 T Ed
open PyProof.Rows hiding St
open C8 (Cal Mak Met pe_c pe_mk pe_mt pe_mt0 pe_gc)
/-! ### edits done sign by sign: plain, applied, turned -/
section
variable {P : Program} {w : World} {K : PySem.W.Frag} {mg : Str → Option Value} {base : Heap} {σ : L2.St} {H : Hp} {te : TE} {D : Ends}
/-- name = Plain() -/
theorem s_mkP {i : Nat} (k : ∀ x l H1, H x = none → H l = none → Same H H1 → PlAt (He.ga K "Plain") H1 x l PS.nil → D.nx (σ.set i (some (.ref x))) H1) : tAsg (tMake (He.ga K "Plain") (sp_Plain_init K) [] E0 tNil) (gName i) D σ H := by
  intro x dx hx hdx nd
  refine ⟨x, dx, rfl, upd_same, fun H' l hl p kp => ⟨rfl, ?_⟩⟩
  have nl : H l = none := by
    by_cases e1 : l = x
    · rw [e1]; exact hx
    · rw [upd_ne e1] at hl
      by_cases e2 : l = dx
      · rw [e2]; exact hdx
      · rwa [upd_ne e2] at hl
  refine k x l H' hx nl (fun b o hb => kp b o ?_ (ne_of_none hb hx)) p
  rw [upd_ne (ne_of_none hb hx), upd_ne (ne_of_none hb hdx)]
  exact hb
theorem s_keepP {i : Nat} {x l : Addr} {s : PS} {n : Nat} (hi : σ[i]? = some (some (.ref x))) (hp : PlAt (He.ga K "Plain") H x l s) (hz : s.size ≤ 100000) (he : EvD K te σ H (.int (n : Nat)))
    (k : ∀ H1, PlAt (He.ga K "Plain") H1 x l (s.keep n) → Sx x l H H1 → D.nx σ H1) : tDrop (tMeth (He.ga K "Plain") "keep_signs" (sp_Plain_keep_signs K) [] E0 (tVar i) (tCons te tNil)) D σ H := by
  obtain ⟨dx, e⟩ := hp.ob
  exact ⟨_, hi, x, dx, _, rfl, e, lkNo l s (by decide +kernel), he H (.refl _) _ fun v H1 s1 dv => ⟨x, l, s, n, by rw [dd_int dv]; rfl, hp.same s1, hz, fun H2 p2 sx => k H2 p2 ((Sx.of s1).trans sx)⟩⟩
theorem s_dropP {i : Nat} {x l : Addr} {s : PS} {n : Nat} (hi : σ[i]? = some (some (.ref x))) (hp : PlAt (He.ga K "Plain") H x l s) (he : EvD K te σ H (.int (n : Nat)))
    (k : ∀ H1, PlAt (He.ga K "Plain") H1 x l (s.drop n) → Sx x l H H1 → D.nx σ H1) : tDrop (tMeth (He.ga K "Plain") "drop_signs" (sp_Plain_drop_signs K) [] E0 (tVar i) (tCons te tNil)) D σ H := by
  obtain ⟨dx, e⟩ := hp.ob
  exact ⟨_, hi, x, dx, _, rfl, e, lkNo l s (by decide +kernel), he H (.refl _) _ fun v H1 s1 dv => ⟨x, l, s, n, by rw [dd_int dv]; rfl, hp.same s1, fun H2 p2 sx => k H2 p2 ((Sx.of s1).trans sx)⟩⟩
theorem s_putP {i : Nat} {x l : Addr} {s : PS} {z : List Nat} (hi : σ[i]? = some (some (.ref x))) (hp : PlAt (He.ga K "Plain") H x l s) (hz : s.f.length + z.length ≤ 16000000) (he : EvD K te σ H (.str (tx z)))
    (k : ∀ H1, PlAt (He.ga K "Plain") H1 x l (s.put z) → Sx x l H H1 → D.nx σ H1) : tDrop (tMeth (He.ga K "Plain") "put_text" (sp_Plain_put_text K) [] E0 (tVar i) (tCons te tNil)) D σ H := by
  obtain ⟨dx, e⟩ := hp.ob
  exact ⟨_, hi, x, dx, _, rfl, e, lkNo l s (by decide +kernel), he H (.refl _) _ fun v H1 s1 dv => ⟨x, l, s, z, by rw [dd_str dv]; rfl, hp.same s1, hz, fun H2 p2 sx => k H2 p2 ((Sx.of s1).trans sx)⟩⟩
theorem s_toldP {i : Nat} {x l : Addr} {s : PS} (hi : σ[i]? = some (some (.ref x))) (hp : PlAt (He.ga K "Plain") H x l s) (hz : s.size ≤ 100000)
    (k : ∀ v H1, Dd K H1 v (eD s.told) → Sx x l H H1 → D.rt v H1) : tRet (tMeth (He.ga K "Plain") "told" (sp_Plain_told K) [] E0 (tVar i) tNil) D σ H := by
  obtain ⟨dx, e⟩ := hp.ob
  exact ⟨_, hi, x, dx, _, rfl, e, lkNo l s (by decide +kernel), x, l, s, rfl, hp, hz, k⟩
theorem sx_same {x l : Addr} {H0 H1 H2 : Hp} (a : Same H0 H1) (hx : H0 x = none) (hl : H0 l = none) (b : Sx x l H1 H2) : Same H0 H2 := fun c o h => b c o (a c o h) (ne_of_none h hx) (ne_of_none h hl)
end
inductive R_plain_in : List PyData → PyData → Prop
  | mk (a : List Nat) (ws : List Wd) (h : OkE a ws) : R_plain_in [eD ws] (eD (plainS ws).told)
abbrev sp_plain_in (K : PySem.W.Frag) : Sp := spD K R_plain_in
theorem len_plain_in {ds : List PyData} {d : PyData} (h : R_plain_in ds d) : ds.length = 1 := by cases h; rfl
inductive R_plain_edit : List PyData → PyData → Prop
  | mk (a : List Nat) (g : Good a) (ws : List Wd) (h : OkE a ws) : R_plain_edit [.str (tx a), eD ws] (eD (plainS ws).told)
abbrev sp_plain_edit (K : PySem.W.Frag) : Sp := spD K R_plain_edit
theorem len_plain_edit {ds : List PyData} {d : PyData} (h : R_plain_edit ds d) : ds.length = 2 := by cases h; rfl
inductive R_applied_in : List PyData → PyData → Prop
  | mk (a : List Nat) (ws : List Wd) (h : OkE a ws) (t : List Nat) (ht : t.length ≤ 1000) : R_applied_in [eD ws, .str (tx t)] (.str (tx (apl t ws 0)))
abbrev sp_applied_in (K : PySem.W.Frag) : Sp := spD K R_applied_in
theorem len_applied_in {ds : List PyData} {d : PyData} (h : R_applied_in ds d) : ds.length = 2 := by cases h; rfl
inductive R_need_taken : List PyData → PyData → Prop
  | mk (a : List Nat) (ws : List Wd) (h : OkE a ws) : R_need_taken [eD ws, .int (taken ws : Nat)] .none
abbrev sp_need_taken (K : PySem.W.Frag) : Sp := spD K R_need_taken
theorem len_need_taken {ds : List PyData} {d : PyData} (h : R_need_taken ds d) : ds.length = 2 := by cases h; rfl
inductive R_applied : List PyData → PyData → Prop
  | mk (a : List Nat) (g : Good a) (ws : List Wd) (h : OkE a ws) (t : List Nat) (ht : Tex a t) (e : taken ws = t.length) : R_applied [.str (tx a), eD ws, .str (tx t)] (.str (tx (apl t ws 0)))
abbrev sp_applied (K : PySem.W.Frag) : Sp := spD K R_applied
theorem len_applied {ds : List PyData} {d : PyData} (h : R_applied ds d) : ds.length = 3 := by cases h; rfl
inductive R_turned_edit : List PyData → PyData → Prop
  | mk (a : List Nat) (g : Good a) (ws : List Wd) (h : OkE a ws) (t : List Nat) (ht : Tex a t) (e : taken ws = t.length) : R_turned_edit [.str (tx a), eD ws, .str (tx t)] (eD (turnS t ws).1.told)
abbrev sp_turned_edit (K : PySem.W.Frag) : Sp := spD K R_turned_edit
theorem len_turned_edit {ds : List PyData} {d : PyData} (h : R_turned_edit ds d) : ds.length = 3 := by cases h; rfl
section
variable {P : Program} {w : World} {K : PySem.W.Frag} {mg : Str → Option Value} {base : Heap}
theorem c_plain_in (T : Tx K mg) : Cal P w K mg base 3 "plain_in" (sp_plain_in K) [] := by
  obtain ⟨fd, F⟩ := T.c.def_ 21 (d := d_plain_in) rfl
  refine cal_of (k := 2) F (g_plain_in T) (F.bindsN fun _ _ _ _ _ _ us hl => match us, hl with | [_], _ => rfl) sc_plain_in (spD_len (by rintro ds d h; exact len_plain_in h)) fun cdv A outer s H vs Q E hr h => ⟨_, (pss_cons (ps_set (i := 1) sc_plain_in.nd rfl (.inl rfl) (pe_mk0 (m_Plain T) hr (by decide) (by rfl)))
      (pss_cons (ps_for PassesOwn.never rfl (uPiList K (pe_c (c_pairs_in T) hr (by decide) (by rfl) (pa_cons (pv 0) pa_nil))) (uPgTup (n := 2) K (by rfl) (pgs_cons (pg_name (i := 2) sc_plain_in.nd rfl (.inl rfl)) (pgs_cons (pg_name (i := 3) sc_plain_in.nd rfl (.inl rfl)) pgs_nil)))
        (pss_one (ps_if (pt_cmpR (uEq K hr.units) (pv 2) pe_str (nomark _)) (pss_one (ps_expr (pe_mt (m_Plain_keep_signs T) hr (by decide) (pv 1) (pa_cons (pv 3) pa_nil)))) (pss_one (ps_if (pt_cmpR (uEq K hr.units) (pv 2) pe_str (nomark _)) (pss_one (ps_expr (pe_mt (m_Plain_drop_signs T) hr (by decide) (pv 1) (pa_cons (pv 3) pa_nil)))) (pss_one (ps_expr (pe_mt (m_Plain_put_text T) hr (by decide) (pv 1) (pa_cons (pv 3) pa_nil)))))))))
      (pss_one (ps_ret (pe_mt0 (m_Plain_told T) hr (by decide) (pv 1)))))), ?_⟩
  obtain ⟨ds, d, ⟨a, ws, hw⟩, hvs, q⟩ := h
  obtain ⟨y, rfl, hy⟩ := dda1 hvs
  refine s_seq (s_mkP fun x l H1 hx hl s1 p1 => ?_)
  refine s_seq (s_forL (l := ws) (gi := prD) (el_call (ea_cons (ev_var rfl (dd_sm s1 _ _ hy)) ea_nil) (spN.of (R := R_pairs_in) (.mk a ws hw)))
    (fun p xs i σ' H' => (∃ z1 z2, σ' = [some y, some (.ref x), z1, z2]) ∧ PlAt (He.ga K "Plain") H' x l (plainS (ws.take i)) ∧ Same H H' ∧ (p ≠ x ∧ p ≠ l) ∧ H' p = some (.lst xs) ∧ DdA K H' xs (ws.map prD))
    (fun p xs H2 hpn s2 hp hda => ⟨⟨none, none, rfl⟩, p1.same s2, s1.trans s2, ⟨fun e => (by obtain ⟨dx, ex⟩ := p1.ob; rw [e, ex] at hpn; cases hpn), fun e => (by rw [e, p1.ws] at hpn; cases hpn)⟩, hp, hda⟩)
    (fun p xs i σ' H' h => ⟨h.2.2.2.2.1, h.2.2.2.2.2⟩) ?_ ?_)
  · rintro p xs i c σ' H' z hc ⟨⟨z1, z2, rfl⟩, pl, s2, ⟨np1, np2⟩, hp, hda⟩ dz
    have him : immAll (ws.map prD) = true := immAll_of fun d hd => by
      obtain ⟨c, _, rfl⟩ := List.mem_map.mp hd
      cases c <;> rfl
    have fin : ∀ (x1 x2 : V) (H2 : Hp), PlAt (He.ga K "Plain") H2 x l (stepW (plainS (ws.take i)) c) → Sx x l H' H2 → (∃ z1 z2, [some y, some (V.ref x), some x1, some x2] = [some y, some (.ref x), z1, z2]) ∧ PlAt (He.ga K "Plain") H2 x l (plainS (ws.take (i + 1))) ∧ Same H H2 ∧ (p ≠ x ∧ p ≠ l) ∧ H2 p = some (.lst xs) ∧ DdA K H2 xs (ws.map prD) := fun x1 x2 H2 p2 sx =>
      ⟨⟨_, _, rfl⟩, by rw [take_succ_of hc, plainS_snoc]; exact p2, sx_same s2 hx hl sx, ⟨np1, np2⟩, sx _ _ hp np1 np2, dda_ts (sx.ts pl) _ _ him hda⟩
    refine g_pair dz fun x1 x2 d1 d2 => ?_
    have hz := plainS_size ws i
    have hvo := hw.vo
    have hok := hw.ok c (List.mem_of_getElem? hc)
    refine s_if (et_test (ev_eqS (b := [107]) (ev_var rfl d1) (ev_const (by decide +kernel)))) (fun hb H2 s3 => ?_) fun hb H2 s3 => ?_
    · cases c with
      | k n => exact s_keepP (n := n) rfl (pl.same s3) (by omega) (ev_var rfl (dd_sm s3 _ _ d2)) fun H3 p3 sx => fin _ _ H3 p3 ((Sx.of s3).trans sx)
      | d n => exact absurd (show ([100] : List Nat) = [107] from of_decide_eq_true hb) (by decide)
      | p l => exact absurd (show ([112] : List Nat) = [107] from of_decide_eq_true hb) (by decide)
    · refine s_if (et_test (ev_eqS (b := [100]) (ev_var rfl (dd_sm s3 _ _ d1)) (ev_const (by decide +kernel)))) (fun hb2 H3 s4 => ?_) fun hb2 H3 s4 => ?_
      · cases c with
        | k n => exact absurd rfl (of_decide_eq_false hb)
        | d n => exact s_dropP (n := n) rfl (pl.same (s3.trans s4)) (ev_var rfl (dd_sm (s3.trans s4) _ _ d2)) fun H4 p4 sx => fin _ _ H4 p4 ((Sx.of (s3.trans s4)).trans sx)
        | p l => exact absurd (show ([112] : List Nat) = [100] from of_decide_eq_true hb2) (by decide)
      · cases c with
        | k n => exact absurd rfl (of_decide_eq_false hb)
        | d n => exact absurd rfl (of_decide_eq_false hb2)
        | p z => exact s_putP (z := z) rfl (pl.same (s3.trans s4)) (by have := hok.2.2; unfold PS.size at hz; omega) (ev_var rfl (dd_sm (s3.trans s4) _ _ d2)) fun H4 p4 sx => fin _ _ H4 p4 ((Sx.of (s3.trans s4)).trans sx)
  · rintro p xs σ' H' ⟨⟨z1, z2, rfl⟩, pl, s2, _, hp, hda⟩
    rw [List.take_length] at pl
    have hz := plainS_size ws ws.length
    rw [List.take_length] at hz
    exact s_toldP rfl pl (by have := hw.vo; omega) fun v H3 dv sx => q v H3 (sx_same s2 hx hl sx) dv
theorem c_plain_edit (T : Tx K mg) : Cal P w K mg base 5 "plain_edit" (sp_plain_edit K) [] := by
  obtain ⟨fd, F⟩ := T.c.def_ 22 (d := d_plain_edit) rfl
  refine cal_of (k := 4) F (g_plain_edit T) (F.bindsN fun _ _ _ _ _ _ us hl => match us, hl with | [_, _], _ => rfl) sc_plain_edit (spD_len (by rintro ds d h; exact len_plain_edit h)) fun cdv A outer s H vs Q E hr h => ⟨_, (pss_cons (ps_expr (pe_c (c_need_edit T) hr (by decide) (by rfl) (pa_cons (pv 0) (pa_cons (pv 1) pa_nil))))
      (pss_one (ps_ret (pe_c (c_plain_in T) hr (by decide) (by rfl) (pa_cons (pv 1) pa_nil))))), ?_⟩
  obtain ⟨ds, d, ⟨a, g, ws, hw⟩, hvs, q⟩ := h
  obtain ⟨x, y, rfl, hx, hy⟩ := dda2 hvs
  refine s_seq (s_drop (ev_call (ea_cons (ev_var rfl hx) (ea_cons (ev_var rfl hy) ea_nil)) (spD.of (R := R_need_edit) (.mk a g ws hw))) fun H2 s2 => ?_)
  exact s_ret (ev_call (ea_cons (ev_var rfl (dd_sm s2 _ _ hy)) ea_nil) (spD.of (R := R_plain_in) (.mk a ws hw))) fun v H3 s3 dv => q v H3 (s2.trans s3) dv
theorem c_need_taken (T : Tx K mg) : Cal P w K mg base 3 "need_taken" (sp_need_taken K) [] := by
  obtain ⟨fd, F⟩ := T.c.def_ 24 (d := d_need_taken) rfl
  refine cal_of (k := 2) F (g_need_taken T) (F.bindsN fun _ _ _ _ _ _ us hl => match us, hl with | [_, _], _ => rfl) sc_need_taken (spD_len (by rintro ds d h; exact len_need_taken h)) fun cdv A outer s H vs Q E hr h => ⟨_, (pss_one (ps_if (pt_cmpR (uNe K hr.units) (pe_c (c_taken_by T) hr (by decide) (by rfl) (pa_cons (pv 0) pa_nil)) (pv 1) (nomark _)) (pss_one ps_never) pss_nil)), ?_⟩
  obtain ⟨ds, d, ⟨a, ws, hw⟩, hvs, q⟩ := h
  obtain ⟨x, y, rfl, hx, hy⟩ := dda2 hvs
  exact s_ifF (EvT.is (et_test (ev_neI (ev_call (ea_cons (ev_var rfl hx) ea_nil) (spD.of (R := R_taken_by) (.mk a ws hw))) (ev_var rfl hy))) (by rw [decide_eq_true rfl]; rfl)) fun H2 s2 => q _ H2 s2 .non
end
end K75


namespace K75
open PySem PySem.Spec L2 T Ed
open PyProof.Rows hiding St
open C8 (Cal Mak Met pe_c pe_mk pe_mt pe_mt0 pe_gc)
theorem cut_at (t : List Nat) (i n : Nat) : cut t (some ((i : Nat) : Int)) (some (((i : Nat) : Int) + ((n : Nat) : Int))) = (t.drop i).take n := by
  rw [show (((i : Nat) : Int) + ((n : Nat) : Int)) = ((i + n : Nat) : Int) by omega, cut_mid, Nat.add_sub_cancel_left]
theorem him_pr (ws : List Wd) : immAll (ws.map prD) = true := immAll_of fun d hd => by
  obtain ⟨c, _, rfl⟩ := List.mem_map.mp hd
  cases c <;> rfl
section
variable {P : Program} {w : World} {K : PySem.W.Frag} {mg : Str → Option Value} {base : Heap}
theorem c_applied_in (T : Tx K mg) : Cal P w K mg base 2 "applied_in" (sp_applied_in K) [] := by
  obtain ⟨fd, F⟩ := T.c.def_ 23 (d := d_applied_in) rfl
  refine cal_of (k := 1) F (g_applied_in T) (F.bindsN fun _ _ _ _ _ _ us hl => match us, hl with | [_, _], _ => rfl) sc_applied_in (spD_len (by rintro ds d h; exact len_applied_in h)) fun cdv A outer s H vs Q E hr h => ⟨_, (pss_cons (ps_asg (pe_tup (pa_cons pe_str (pa_cons pe_int pa_nil))) (uPgTup (n := 2) K (by rfl) (pgs_cons (pg_name (i := 2) sc_applied_in.nd rfl (.inl rfl)) (pgs_cons (pg_name (i := 3) sc_applied_in.nd rfl (.inl rfl)) pgs_nil))))
      (pss_cons (ps_for PassesOwn.never rfl (uPiList K (pe_c (c_pairs_in T) hr (by decide) (by rfl) (pa_cons (pv 0) pa_nil))) (uPgTup (n := 2) K (by rfl) (pgs_cons (pg_name (i := 4) sc_applied_in.nd rfl (.inl rfl)) (pgs_cons (pg_name (i := 5) sc_applied_in.nd rfl (.inl rfl)) pgs_nil)))
        (pss_one (ps_if (pt_cmpR (uEq K hr.units) (pv 4) pe_str (nomark _)) (pss_one (ps_aug (i := 2) sc_applied_in.nd rfl (.inl rfl) (pv 5) uIAdd)) (pss_cons (ps_aug (i := 2) sc_applied_in.nd rfl (.inl rfl) (pe_ifExp (pt_cmpR (uEq K hr.units) (pv 4) pe_str (nomark _)) (pe_slice (uSl K) (pv 1) (po_some (pv 3)) (po_some (pe_op (uAdd K) (pv 3) (pv 5)))) pe_str) uIAdd)
      (pss_one (ps_aug (i := 3) sc_applied_in.nd rfl (.inl rfl) (pv 5) uIAdd))))))
      (pss_one (ps_ret (pv 2))))), ?_⟩
  obtain ⟨ds, d, ⟨a, ws, hw, t, ht⟩, hvs, q⟩ := h
  obtain ⟨x, y, rfl, hx, hy⟩ := dda2 hvs
  have hvo := hw.vo
  refine s_seq (s_asgPair (d1 := .str (tx [])) (d2 := .int 0) (ev_tup (ea_cons (ev_const (by decide +kernel)) (ea_cons ev_int ea_nil)) (by show 2 ≤ sizeLine; decide)) fun x1 x2 H1 s1 e1 e2 => ?_)
  have f1 := dd_str e1
  have f2 := dd_int e2
  subst f1 f2
  refine s_seq (s_forL (l := ws) (gi := prD) (el_call (ea_cons (ev_var rfl (dd_sm s1 _ _ hx)) ea_nil) (spN.of (R := R_pairs_in) (.mk a ws hw)))
    (fun p xs i σ' H' => (∃ z1 z2, σ' = [some x, some y, some (.str (tx (apl t (ws.take i) 0))), some (.int (taken (ws.take i) : Nat)), z1, z2]) ∧ Same H H' ∧ H' p = some (.lst xs) ∧ DdA K H' xs (ws.map prD))
    (fun p xs H2 hpn s2 hp hda => ⟨⟨none, none, rfl⟩, s1.trans s2, hp, hda⟩)
    (fun p xs i σ' H' h => h.2.2) ?_ ?_)
  · rintro p xs i c σ' H' z hc ⟨⟨z1, z2, rfl⟩, s2, hp, hda⟩ dz
    have fin : ∀ (x1 x2 : V) (H2 : Hp) (l : List Nat) (n : Int), l = apl t (ws.take (i + 1)) 0 → n = (taken (ws.take (i + 1)) : Nat) → Same H' H2 → (∃ z1 z2, [some x, some y, some (V.str (tx l)), some (V.int n), some x1, some x2] = [some x, some y, some (.str (tx (apl t (ws.take (i + 1)) 0))), some (.int (taken (ws.take (i + 1)) : Nat)), z1, z2]) ∧ Same H H2 ∧ H2 p = some (.lst xs) ∧ DdA K H2 xs (ws.map prD) := fun x1 x2 H2 l n el en s3 =>
      ⟨⟨some x1, some x2, by rw [el, en]⟩, s2.trans s3, s3 _ _ hp, dda_sm s3 _ _ hda⟩
    have hz := apl_len t (ws.take i) 0
    have hv := vol_take ws i
    have htk := taken_vol (ws.take i)
    have hok := hw.ok c (List.mem_of_getElem? hc)
    have eapl : apl t (ws.take (i + 1)) 0 = apl t (ws.take i) 0 ++ apl t [c] (taken (ws.take i)) := by rw [take_succ_of hc, apl_app, Nat.zero_add]
    have etk : taken (ws.take (i + 1)) = taken (ws.take i) + takW c := by rw [take_succ_of hc, taken_snoc]
    refine g_pair dz fun x1 x2 d1 d2 => ?_
    refine s_if (et_test (ev_eqS (b := [112]) (ev_var rfl d1) (ev_const (by decide +kernel)))) (fun hb H2 s3 => ?_) fun hb H2 s3 => ?_
    · cases c with
      | k n => exact absurd (show ([107] : List Nat) = [112] from of_decide_eq_true hb) (by decide)
      | d n => exact absurd (show ([100] : List Nat) = [112] from of_decide_eq_true hb) (by decide)
      | p l => exact s_augS (b := l) rfl (ev_var rfl (dd_sm s3 _ _ d2)) (sz_of (by have := hok.2.2; omega)) fun H3 s4 => fin _ _ H3 _ _ (by rw [eapl]; show _ = _ ++ (l ++ []); rw [List.append_nil]) (by rw [etk]; rfl) (s3.trans s4)
    · have hn : ∃ n : Nat, vl c = .int (n : Nat) ∧ takW c = n ∧ n = volW c := by
        cases c with
        | k n => exact ⟨n, rfl, rfl, rfl⟩
        | d n => exact ⟨n, rfl, rfl, rfl⟩
        | p l => exact absurd rfl (of_decide_eq_false hb)
      obtain ⟨n, en, et, ev⟩ := hn
      rw [en] at d2
      refine s_seq (s_augS (b := apl t [c] (taken (ws.take i))) rfl (ev_if (et_test (ev_eqS (b := [107]) (ev_var rfl (dd_sm s3 _ _ d1)) (ev_const (by decide +kernel)))) (fun hb2 => EvD.is (ev_slS (ev_var (d := .str (tx t)) rfl (dd_sm (s2.trans s3) _ _ hy)) (eo_some (K := K) (ev_var rfl (.int _))) (eo_some (K := K) (ev_add (ev_var rfl (.int _)) (ev_var rfl (dd_sm s3 _ _ d2)))) (sz_of (by omega))) ?_) (fun hb2 => EvD.is (ev_const (a := []) (by decide +kernel)) ?_)) ?_ fun H3 s4 => s_augI (b := (n : Nat)) rfl (ev_var rfl (dd_sm (s3.trans s4) _ _ d2)) fun H4 s5 => fin _ _ H4 _ _ eapl.symm (by rw [etk, et]; omega) ((s3.trans s4).trans s5))
      · rw [cut_at]
        cases c with
        | k m =>
          have : m = n := by simpa [takW] using et
          subst this
          show _ = PyData.str (tx (_ ++ []))
          rw [List.append_nil]
        | d m => exact absurd (show ([100] : List Nat) = [107] from of_decide_eq_true hb2) (by decide)
        | p l => exact absurd rfl (of_decide_eq_false hb)
      · cases c with
        | k m => exact absurd rfl (of_decide_eq_false hb2)
        | d m => rfl
        | p l => exact absurd rfl (of_decide_eq_false hb)
      · have h2 := apl_len t [c] (taken (ws.take i))
        have h3 : vol [c] = volW c := by unfold vol; simp
        have h4 : volW c ≤ 1000 := by
          cases c with
          | k m => have := hok.2; simp only [volW]; omega
          | d m => have := hok.2; simp only [volW]; omega
          | p l => exact hok.2.2
        exact sz_of (by omega)
  · rintro p xs σ' H' ⟨⟨z1, z2, rfl⟩, s2, hp, hda⟩
    exact s_ret (EvD.is (ev_var rfl (.str _)) (by rw [List.take_length])) fun v H3 s3 dv => q v H3 (s2.trans s3) dv
theorem c_applied (T : Tx K mg) : Cal P w K mg base 5 "applied" (sp_applied K) [] := by
  obtain ⟨fd, F⟩ := T.c.def_ 25 (d := d_applied) rfl
  refine cal_of (k := 4) F (g_applied T) (F.bindsN fun _ _ _ _ _ _ us hl => match us, hl with | [_, _, _], _ => rfl) sc_applied (spD_len (by rintro ds d h; exact len_applied h)) fun cdv A outer s H vs Q E hr h => ⟨_, (pss_cons (ps_expr (pe_c (c_need_edit T) hr (by decide) (by rfl) (pa_cons (pv 0) (pa_cons (pv 1) pa_nil))))
      (pss_cons (ps_expr (pe_c (c_need_text T) hr (by decide) (by rfl) (pa_cons (pv 0) (pa_cons (pv 2) pa_nil))))
      (pss_cons (ps_expr (pe_c (c_need_taken T) hr (by decide) (by rfl) (pa_cons (pv 1) (pa_cons (pe_callB (uLen K) (by rfl) (z_len T) (by decide +kernel) (pa_cons (pv 2) pa_nil)) pa_nil))))
      (pss_one (ps_ret (pe_c (c_applied_in T) hr (by decide) (by rfl) (pa_cons (pv 1) (pa_cons (pv 2) pa_nil)))))))), ?_⟩
  obtain ⟨ds, d, ⟨a, g, ws, hw, t, ht, et⟩, hvs, q⟩ := h
  obtain ⟨x, y, z, rfl, hx, hy, hz⟩ := dda3 hvs
  refine s_seq (s_drop (ev_call (ea_cons (ev_var rfl hx) (ea_cons (ev_var rfl hy) ea_nil)) (spD.of (R := R_need_edit) (.mk a g ws hw))) fun H2 s2 => ?_)
  refine s_seq (s_drop (ev_call (ea_cons (ev_var rfl (dd_sm s2 _ _ hx)) (ea_cons (ev_var rfl (dd_sm s2 _ _ hz)) ea_nil)) (spD.of (R := R_need_text) (.mk a t ht))) fun H3 s3 => ?_)
  have s23 := s2.trans s3
  refine s_seq (s_drop (ev_call (ea_cons (ev_var rfl (dd_sm s23 _ _ hy)) (ea_cons (EvD.is (ev_lenS (ev_var rfl (dd_sm s23 _ _ hz)) (sz_of (by have := ht.hi; omega))) (by rw [← et])) ea_nil)) (spD.of (R := R_need_taken) (.mk a ws hw))) fun H4 s4 => ?_)
  have s24 := s23.trans s4
  exact s_ret (ev_call (ea_cons (ev_var rfl (dd_sm s24 _ _ hy)) (ea_cons (ev_var rfl (dd_sm s24 _ _ hz)) ea_nil)) (spD.of (R := R_applied_in) (.mk a ws hw t ht.hi))) fun v H5 s5 dv => q v H5 (s24.trans s5) dv
end
end K75


namespace K75
open PySem PySem.Spec L2 T Ed
open PyProof.Rows hiding St
open C8 (Cal Mak Met pe_c pe_mk pe_mt pe_mt0 pe_gc)
section
variable {P : Program} {w : World} {K : PySem.W.Frag} {mg : Str → Option Value} {base : Heap} {σ : L2.St} {H : Hp} {te : TE} {D : Ends}
/-- Plain(), in an expression -/
theorem e_mkP {Q : VK} (k : ∀ x l H1, H x = none → H l = none → Same H H1 → PlAt (He.ga K "Plain") H1 x l PS.nil → Q (.ref x) H1) : tMake (He.ga K "Plain") (sp_Plain_init K) [] E0 tNil σ H Q := by
  intro x dx hx hdx nd
  refine ⟨x, dx, rfl, upd_same, fun H' l hl p kp => ⟨rfl, ?_⟩⟩
  have nl : H l = none := by
    by_cases e1 : l = x
    · rw [e1]; exact hx
    · rw [upd_ne e1] at hl
      by_cases e2 : l = dx
      · rw [e2]; exact hdx
      · rwa [upd_ne e2] at hl
  refine k x l H' hx nl (fun b o hb => kp b o ?_ (ne_of_none hb hx)) p
  rw [upd_ne (ne_of_none hb hx), upd_ne (ne_of_none hb hdx)]
  exact hb
theorem s_parP {i j : Nat} {v : V} (k : ∀ x l H1, H x = none → H l = none → Same H H1 → PlAt (He.ga K "Plain") H1 x l PS.nil → D.nx ((σ.set i (some (.ref x))).set j (some v)) H1) : tPar i j (tCons (tMake (He.ga K "Plain") (sp_Plain_init K) [] E0 tNil) (tCons (tC v) tNil)) D σ H := by
  show tMake (He.ga K "Plain") (sp_Plain_init K) [] E0 tNil σ H fun x H1 => ∃ v' w', [x, v] = [v', w'] ∧ D.nx ((σ.set i (some v')).set j (some w')) H1
  exact e_mkP fun x l H1 hx hl s1 p1 => ⟨_, _, rfl, k x l H1 hx hl s1 p1⟩
theorem c_turned_edit (T : Tx K mg) : Cal P w K mg base 5 "turned_edit" (sp_turned_edit K) [] := by
  obtain ⟨fd, F⟩ := T.c.def_ 29 (d := d_turned_edit) rfl
  refine cal_of (k := 4) F (g_turned_edit T) (F.bindsN fun _ _ _ _ _ _ us hl => match us, hl with | [_, _, _], _ => rfl) sc_turned_edit (spD_len (by rintro ds d h; exact len_turned_edit h)) fun cdv A outer s H vs Q E hr h => ⟨_, (pss_cons (ps_expr (pe_c (c_need_edit T) hr (by decide) (by rfl) (pa_cons (pv 0) (pa_cons (pv 1) pa_nil))))
      (pss_cons (ps_expr (pe_c (c_need_text T) hr (by decide) (by rfl) (pa_cons (pv 0) (pa_cons (pv 2) pa_nil))))
      (pss_cons (ps_expr (pe_c (c_need_taken T) hr (by decide) (by rfl) (pa_cons (pv 1) (pa_cons (pe_callB (uLen K) (by rfl) (z_len T) (by decide +kernel) (pa_cons (pv 2) pa_nil)) pa_nil))))
      (pss_cons (ps_par (i := 3) (j := 4) (by rfl) sc_turned_edit.nd rfl rfl (by decide) rfl rfl (pa_cons (pe_mk0 (m_Plain T) hr (by decide) (by rfl)) (pa_cons pe_int pa_nil)) (by rfl))
      (pss_cons (ps_for PassesOwn.never rfl (uPiList K (pe_c (c_pairs_in T) hr (by decide) (by rfl) (pa_cons (pv 1) pa_nil))) (uPgTup (n := 2) K (by rfl) (pgs_cons (pg_name (i := 5) sc_turned_edit.nd rfl (.inl rfl)) (pgs_cons (pg_name (i := 6) sc_turned_edit.nd rfl (.inl rfl)) pgs_nil)))
        (pss_one (ps_if (pt_cmpR (uEq K hr.units) (pv 5) pe_str (nomark _)) (pss_one (ps_expr (pe_mt (m_Plain_drop_signs T) hr (by decide) (pv 3) (pa_cons (pe_callB (uLen K) (by rfl) (z_len T) (by decide +kernel) (pa_cons (pv 6) pa_nil)) pa_nil)))) (pss_one (ps_if (pt_cmpR (uEq K hr.units) (pv 5) pe_str (nomark _)) (pss_cons (ps_expr (pe_mt (m_Plain_keep_signs T) hr (by decide) (pv 3) (pa_cons (pv 6) pa_nil)))
      (pss_one (ps_aug (i := 4) sc_turned_edit.nd rfl (.inl rfl) (pv 6) uIAdd))) (pss_cons (ps_expr (pe_mt (m_Plain_put_text T) hr (by decide) (pv 3) (pa_cons (pe_slice (uSl K) (pv 2) (po_some (pv 4)) (po_some (pe_op (uAdd K) (pv 4) (pv 6)))) pa_nil)))
      (pss_one (ps_aug (i := 4) sc_turned_edit.nd rfl (.inl rfl) (pv 6) uIAdd))))))))
      (pss_one (ps_ret (pe_mt0 (m_Plain_told T) hr (by decide) (pv 3))))))))), ?_⟩
  obtain ⟨ds, d, ⟨a, g, ws, hw, t, ht, et⟩, hvs, q⟩ := h
  obtain ⟨x0, y, z0, rfl, hx, hy, hz0⟩ := dda3 hvs
  have hvo := hw.vo
  refine s_seq (s_drop (ev_call (ea_cons (ev_var rfl hx) (ea_cons (ev_var rfl hy) ea_nil)) (spD.of (R := R_need_edit) (.mk a g ws hw))) fun H2 s2 => ?_)
  refine s_seq (s_drop (ev_call (ea_cons (ev_var rfl (dd_sm s2 _ _ hx)) (ea_cons (ev_var rfl (dd_sm s2 _ _ hz0)) ea_nil)) (spD.of (R := R_need_text) (.mk a t ht))) fun H3 s3 => ?_)
  have s23 := s2.trans s3
  refine s_seq (s_drop (ev_call (ea_cons (ev_var rfl (dd_sm s23 _ _ hy)) (ea_cons (EvD.is (ev_lenS (ev_var rfl (dd_sm s23 _ _ hz0)) (sz_of (by have := ht.hi; omega))) (by rw [← et])) ea_nil)) (spD.of (R := R_need_taken) (.mk a ws hw))) fun H4 s4 => ?_)
  have s24 := s23.trans s4
  refine s_seq (s_parP fun x l H5 hxn hln s5 p1 => ?_)
  have hx0 : H x = none := s24.free hxn
  have hl0 : H l = none := s24.free hln
  have s25 := s24.trans s5
  refine s_seq (s_forL (l := ws) (gi := prD) (el_call (ea_cons (ev_var rfl (dd_sm s25 _ _ hy)) ea_nil) (spN.of (R := R_pairs_in) (.mk a ws hw)))
    (fun p xs i σ' H' => (∃ z1 z2, σ' = [some x0, some y, some z0, some (.ref x), some (.int (taken (ws.take i) : Nat)), z1, z2]) ∧ PlAt (He.ga K "Plain") H' x l (turnS t (ws.take i)).1 ∧ Same H H' ∧ (p ≠ x ∧ p ≠ l) ∧ H' p = some (.lst xs) ∧ DdA K H' xs (ws.map prD))
    (fun p xs H2 hpn s2 hp hda => ⟨⟨none, none, rfl⟩, p1.same s2, s25.trans s2, ⟨fun e => (by obtain ⟨dx, ex⟩ := p1.ob; rw [e, ex] at hpn; cases hpn), fun e => (by rw [e, p1.ws] at hpn; cases hpn)⟩, hp, hda⟩)
    (fun p xs i σ' H' h => ⟨h.2.2.2.2.1, h.2.2.2.2.2⟩) ?_ ?_)
  · rintro p xs i c σ' H' z hc ⟨⟨z1, z2, rfl⟩, pl, sh, ⟨np1, np2⟩, hp, hda⟩ dz
    have eT : turnS t (ws.take (i + 1)) = stepT t (turnS t (ws.take i)) c := by rw [take_succ_of hc, turnS_snoc]
    have etk : taken (ws.take (i + 1)) = taken (ws.take i) + takW c := by rw [take_succ_of hc, taken_snoc]
    have hat := turnS_at t (ws.take i)
    have fin : ∀ (x1 x2 : V) (n : Int) (H2 : Hp), n = (taken (ws.take (i + 1)) : Nat) → PlAt (He.ga K "Plain") H2 x l (stepT t (turnS t (ws.take i)) c).1 → Sx x l H' H2 → (∃ z1 z2, [some x0, some y, some z0, some (V.ref x), some (V.int n), some x1, some x2] = [some x0, some y, some z0, some (.ref x), some (.int (taken (ws.take (i + 1)) : Nat)), z1, z2]) ∧ PlAt (He.ga K "Plain") H2 x l (turnS t (ws.take (i + 1))).1 ∧ Same H H2 ∧ (p ≠ x ∧ p ≠ l) ∧ H2 p = some (.lst xs) ∧ DdA K H2 xs (ws.map prD) := fun x1 x2 n H2 en p2 sx =>
      ⟨⟨some x1, some x2, by rw [en]⟩, by rw [eT]; exact p2, sx_same sh hx0 hl0 sx, ⟨np1, np2⟩, sx _ _ hp np1 np2, dda_ts (sx.ts pl) _ _ (him_pr ws) hda⟩
    refine g_pair dz fun x1 x2 d1 d2 => ?_
    have hz := turnS_size t ws i
    have hok := hw.ok c (List.mem_of_getElem? hc)
    refine s_if (et_test (ev_eqS (b := [112]) (ev_var rfl d1) (ev_const (by decide +kernel)))) (fun hb H2 s3 => ?_) fun hb H2 s3 => ?_
    · cases c with
      | k n => exact absurd (show ([107] : List Nat) = [112] from of_decide_eq_true hb) (by decide)
      | d n => exact absurd (show ([100] : List Nat) = [112] from of_decide_eq_true hb) (by decide)
      | p v => exact s_dropP (n := v.length) rfl (pl.same s3) (ev_lenS (ev_var rfl (dd_sm s3 _ _ d2)) (sz_of (by have := hok.2.2; omega))) fun H3 p3 sx => fin _ _ _ H3 (by rw [etk]; rfl) p3 ((Sx.of s3).trans sx)
    · refine s_if (et_test (ev_eqS (b := [107]) (ev_var rfl (dd_sm s3 _ _ d1)) (ev_const (by decide +kernel)))) (fun hb2 H3 s4 => ?_) fun hb2 H3 s4 => ?_
      · cases c with
        | k n => exact s_seq (s_keepP (n := n) rfl (pl.same (s3.trans s4)) (by omega) (ev_var rfl (dd_sm (s3.trans s4) _ _ d2)) fun H4 p4 sx => s_augI (b := (n : Nat)) rfl (ev_var rfl (dd_ts ((Ts.of (s3.trans s4)).trans (sx.ts (pl.same (s3.trans s4)))) _ _ rfl d2)) fun H5 s5 => fin _ _ _ H5 (by rw [etk]; show _ = ((taken (ws.take i) + n : Nat) : Int); omega) (p4.same s5) (((Sx.of (s3.trans s4)).trans sx).trans (Sx.of s5)))
        | d n => exact absurd (show ([100] : List Nat) = [107] from of_decide_eq_true hb2) (by decide)
        | p v => exact absurd rfl (of_decide_eq_false hb)
      · cases c with
        | k n => exact absurd rfl (of_decide_eq_false hb2)
        | p v => exact absurd rfl (of_decide_eq_false hb)
        | d n =>
          have hlen : ((t.drop (taken (ws.take i))).take n).length ≤ n := List.length_take_le _ _
          have hn := hok.2
          exact s_seq (s_putP (z := (t.drop (taken (ws.take i))).take n) rfl (pl.same (s3.trans s4)) (by unfold PS.size at hz; omega) (EvD.is (ev_slS (ev_var (d := .str (tx t)) rfl (dd_sm (sh.trans (s3.trans s4)) _ _ hz0)) (eo_some (K := K) (ev_var rfl (.int _))) (eo_some (K := K) (ev_add (ev_var rfl (.int _)) (ev_var (d := .int (n : Nat)) rfl (dd_sm (s3.trans s4) _ _ d2)))) (sz_of (by have := ht.hi; omega))) (by rw [cut_at])) fun H4 p4 sx => s_augI (b := (n : Nat)) rfl (ev_var rfl (dd_ts ((Ts.of (s3.trans s4)).trans (sx.ts (pl.same (s3.trans s4)))) _ _ rfl d2)) fun H5 s5 => fin _ _ _ H5 (by rw [etk]; show _ = ((taken (ws.take i) + n : Nat) : Int); omega) (by
            have e2 : (stepT t (turnS t (ws.take i)) (.d n)).1 = (turnS t (ws.take i)).1.put ((t.drop (taken (ws.take i))).take n) := by rw [← hat]; rfl
            rw [e2]
            exact p4.same s5) (((Sx.of (s3.trans s4)).trans sx).trans (Sx.of s5)))
  · rintro p xs σ' H' ⟨⟨z1, z2, rfl⟩, pl, sh, _, hp, hda⟩
    rw [List.take_length] at pl
    have hz := turnS_size t ws ws.length
    rw [List.take_length] at hz
    exact s_toldP rfl pl (by omega) fun v H3 dv sx => q v H3 (sx_same sh hx0 hl0 sx) dv
end
end K75


namespace K75
open PySem PySem.Spec L2 T Ed
open PyProof.Rows hiding St
open C8 (Cal Mak Met pe_c pe_mk pe_mt pe_mt0 pe_gc)
theorem lt_dec (i n : Nat) : decide (((i : Nat) : Int) < ((n : Nat) : Int)) = decide (i < n) := decide_eq_decide.mpr (by omega)
theorem drop_cons {α : Type} {l : List α} {i : Nat} (h : i < l.length) : l.drop i = l[i] :: l.drop (i + 1) := List.drop_eq_getElem_cons h
/-! ### an edit behind another -/
def gk : Gn → List Nat
  | .gone _ => [103, 111, 110, 101] | .old => [111, 108, 100] | .new _ => [110, 101, 119]
def gv : Gn → PyData
  | .gone n => .int (n : Nat) | .old => .none | .new c => .str (tx [c])
def gD (e : Gn) : PyData := .tuple [.str (tx (gk e)), gv e]
theorem imm_g (es : List Gn) : immAll (es.map gD) = true := immAll_of fun d hd => by
  obtain ⟨x, _, rfl⟩ := List.mem_map.mp hd
  cases x <;> rfl
abbrev sp_passed_gone (K : PySem.W.Frag) : Sp := fun vs H Q _ => ∃ (x l S : Addr) (s : PS) (xs : List V) (es : List Gn) (a : Nat), vs = [.ref x, .ref S, .int (a : Nat)] ∧ PlAt (He.ga K "Plain") H x l s ∧ H S = some (.lst xs) ∧ S ≠ l ∧ DdA K H xs (es.map gD) ∧ a ≤ es.length ∧ es.length ≤ 100000 ∧
  ∀ H', PlAt (He.ga K "Plain") H' x l (s.drop (gs (es.drop a))) → Sx x l H H' → Q (.int ((a + gn (es.drop a) : Nat) : Int)) H'
section
variable {P : Program} {w : World} {K : PySem.W.Frag} {mg : Str → Option Value} {base : Heap}
theorem c_passed_gone (T : Tx K mg) : Cal P w K mg base 2 "passed_gone" (sp_passed_gone K) [] := by
  obtain ⟨fd, F⟩ := T.c.def_ 27 (d := d_passed_gone) rfl
  refine cal_of (k := 1) F (g_passed_gone T) (F.bindsN fun _ _ _ _ _ _ us hl => match us, hl with | [_, _, _], _ => rfl) sc_passed_gone (fun vs H Q E ⟨x, l, S, s, xs, es, a, e, _⟩ => by rw [e]; rfl) fun cdv A outer s H vs Q E hr h => ⟨_, (pss_cons (ps_while PassesOwn.never (PW.pt (pw_and (pt_cmpR op_lt (pv 2) (pe_callB (uLen K) (by rfl) (z_len T) (by decide +kernel) (pa_cons (pv 1) pa_nil)) (nomark _)) (pw_and1 (pt_cmpR (uEq K hr.units) (pe_ix (uIx K) (pe_ix (uIx K) (pv 1) (pv 2) (fun _ _ => rfl)) pe_int (fun _ _ => rfl)) pe_str (nomark _))))) (pss_cons (ps_expr (pe_mt (m_Plain_drop_signs T) hr (by decide) (pv 0) (pa_cons (pe_ix (uIx K) (pe_ix (uIx K) (pv 1) (pv 2) (fun _ _ => rfl)) pe_int (fun _ _ => rfl)) pa_nil)))
      (pss_one (ps_aug (i := 2) sc_passed_gone.nd rfl (.inl rfl) pe_int uIAdd))))
      (pss_one (ps_ret (pv 2)))), ?_⟩
  obtain ⟨x, l, S, s, xs, es, a, rfl, pl, hS, hSl, hxs, ha, hes, q⟩ := h
  have hSx : S ≠ x := fun e => by
    obtain ⟨dx, ex⟩ := pl.ob
    rw [e, ex] at hS
    cases hS
  refine s_seq (s_while (m := es.length - a) (fun m σ' H' => ∃ (b k : Nat), σ' = [some (.ref x), some (.ref S), some (.int (b : Nat))] ∧ m = es.length - b ∧ b ≤ es.length ∧ k + gs (es.drop b) = gs (es.drop a) ∧ b + gn (es.drop b) = a + gn (es.drop a) ∧ PlAt (He.ga K "Plain") H' x l (s.drop k) ∧ Sx x l H H' ∧ H' S = some (.lst xs) ∧ DdA K H' xs (es.map gD))
    ⟨a, 0, rfl, rfl, ha, Nat.zero_add _, rfl, pl, .refl _ _ _, hS, hxs⟩ ?_)
  rintro m σ' H2 ⟨b, k, rfl, rfl, hb, hk, hg, pl, sx, hS, hxs⟩
  by_cases hbl : b < es.length
  · have hget : es[b]? = some es[b] := List.getElem?_eq_getElem hbl
    have hdrop : es.drop b = es[b] :: es.drop (b + 1) := List.drop_eq_getElem_cons hbl
    have eG : ∀ {H3 : Hp}, Same H2 H3 → EvD K (tOp (rIx K) (tVar 1) (tVar 2)) [some (.ref x), some (.ref S), some (.int (b : Nat))] H3 (gD es[b]) := fun s3 => ev_ixL (ds := es.map gD) (ev_var rfl (.lst (s3 _ _ hS) (dda_sm s3 _ _ hxs))) (ev_var rfl (.int (b : Nat))) (atI_nat (by rw [List.getElem?_map, hget]; rfl))
    have e0 : ∀ {H3 : Hp}, Same H2 H3 → EvD K (tOp (rIx K) (tOp (rIx K) (tVar 1) (tVar 2)) (tC (.int 0))) [some (.ref x), some (.ref S), some (.int (b : Nat))] H3 (.str (tx (gk es[b]))) := fun s3 => ev_ixT (eG s3) ev_int (atI_nat (j := 0) rfl)
    have e1 : ∀ {H3 : Hp}, Same H2 H3 → EvD K (tOp (rIx K) (tOp (rIx K) (tVar 1) (tVar 2)) (tC (.int 1))) [some (.ref x), some (.ref S), some (.int (b : Nat))] H3 (gv es[b]) := fun s3 => ev_ixT (eG s3) ev_int (atI_nat (j := 1) rfl)
    refine ⟨_, EvT.is (et_and (et_test (ev_opI (K := K) (fun _ => .bl _) (ev_var (i := 2) rfl (.int (b : Nat))) (ev_lenL (ev_var (i := 1) rfl (.lst hS hxs))))) (fun _ => et_test (ev_eqS (e0 (.refl _)) (ev_const (a := [103, 111, 110, 101]) (by decide +kernel))))) (?_ : _ = decide (gk es[b] = [103, 111, 110, 101])), fun hc H3 s3 => ?_, fun hc H3 s3 => ?_⟩
    · rw [List.length_map, lt_dec, decide_eq_true hbl, Bool.true_and]
    · cases he : es[b] with
      | old => rw [he] at hc; exact absurd (of_decide_eq_true hc) (by decide)
      | new c => rw [he] at hc; exact absurd (of_decide_eq_true hc) (show ¬ ([110, 101, 119] : List Nat) = [103, 111, 110, 101] by decide)
      | gone n =>
        have e1' := e1 s3
        rw [he] at e1'
        rw [hdrop, he] at hk hg
        refine s_seq (s_dropP (n := n) rfl (pl.same s3) e1' fun H4 p4 sx4 => s_augI (K := K) (a := (b : Nat)) rfl ev_int fun H5 s5 => ?_)
        have pl3 := pl.same s3
        refine ⟨es.length - (b + 1), by omega, b + 1, k + n, by rw [show ((b : Nat) : Int) + 1 = ((b + 1 : Nat) : Int) by omega]; rfl, rfl, hbl, ?_, ?_, ?_, ?_, ?_, ?_⟩
        · have hk' : k + (n + gs (es.drop (b + 1))) = gs (es.drop a) := hk
          omega
        · have hg' : b + (gn (es.drop (b + 1)) + 1) = a + gn (es.drop a) := hg
          omega
        · have : (s.drop k).drop n = s.drop (k + n) := by unfold PS.drop; simp only [Nat.add_assoc]
          rw [← this]
          exact p4.same s5
        · exact ((sx.trans (.of s3)).trans sx4).trans (.of s5)
        · exact s5 _ _ (sx4 _ _ (s3 _ _ hS) hSx hSl)
        · exact dda_sm s5 _ _ (dda_ts (sx4.ts pl3) _ _ (imm_g es) (dda_sm s3 _ _ hxs))
    · have hne : gk es[b] ≠ [103, 111, 110, 101] := of_decide_eq_false hc
      have hz : gs (es.drop b) = 0 ∧ gn (es.drop b) = 0 := by
        rw [hdrop]
        cases he : es[b] with
        | old => exact ⟨rfl, rfl⟩
        | new c => exact ⟨rfl, rfl⟩
        | gone n => rw [he] at hne; exact absurd rfl hne
      refine s_ret (K := K) (ev_var rfl (.int (b : Nat))) fun v H4 s4 dv => ?_
      rw [dd_int dv, show ((b : Nat) : Int) = ((a + gn (es.drop a) : Nat) : Int) by omega]
      refine q H4 ?_ ((sx.trans (.of s3)).trans (.of s4))
      rw [show gs (es.drop a) = k by omega]
      exact (pl.same s3).same s4
  · have hz : gs (es.drop b) = 0 ∧ gn (es.drop b) = 0 := by
      rw [List.drop_of_length_le (by omega)]
      exact ⟨rfl, rfl⟩
    refine ⟨false, EvT.is (et_and (b := false) (et_test (ev_opI (K := K) (fun _ => .bl _) (ev_var (i := 2) rfl (.int (b : Nat))) (ev_lenL (ev_var (i := 1) rfl (.lst hS hxs))))) (fun e => absurd (of_decide_eq_true e) (by rw [List.length_map]; omega))) (Bool.and_false _), (fun z => by cases z), fun _ H3 s3 => ?_⟩
    refine s_ret (K := K) (ev_var rfl (.int (b : Nat))) fun v H4 s4 dv => ?_
    rw [dd_int dv, show ((b : Nat) : Int) = ((a + gn (es.drop a) : Nat) : Int) by omega]
    refine q H4 ?_ ((sx.trans (.of s3)).trans (.of s4))
    rw [show gs (es.drop a) = k by omega]
    exact (pl.same s3).same s4
end
end K75


namespace K75
open PySem PySem.Spec L2 T Ed
open PyProof.Rows hiding St
open C8 (Cal Mak Met pe_c pe_mk pe_mt pe_mt0 pe_gc)
inductive R_behind_in : List PyData → PyData → Prop
  | mk (a : List Nat) (e1 e2 : List Wd) (h1 : OkE a e1) (h2 : OkE a e2) (h : taken e2 = lefts e1) : R_behind_in [eD e1, eD e2] (eD (PO (Ed.cmp (opsOf e1) (opsOf e2))).told)
abbrev sp_behind_in (K : PySem.W.Frag) : Sp := spD K R_behind_in
theorem len_behind_in {ds : List PyData} {d : PyData} (h : R_behind_in ds d) : ds.length = 2 := by cases h; rfl
theorem entG_take (e : List Wd) (i : Nat) : (entG (e.take i)).length ≤ (entG e).length := by
  conv => rhs; rw [← List.take_append_drop i e]
  show _ ≤ ((e.take i ++ e.drop i).flatMap entW).length
  rw [List.flatMap_append, List.length_append]
  exact Nat.le_add_right _ _
section
variable {K : PySem.W.Frag} {σ : L2.St} {H : Hp} {te : TE} {D : Ends}
theorem s_appE {i : Nat} {L : Addr} {xs : List V} {d : PyData} (hi : σ[i]? = some (some (.ref L))) (hL : H L = some (.lst xs)) (h : EvD K te σ H d) (hl : xs.length < 100000)
    (k : ∀ v H1, Same H H1 → Dd K H1 v d → D.nx σ (upd H1 L (.lst (xs ++ [v])))) : tDrop (tBM K "list" rAppend (tVar i) (tCons te tNil)) D σ H :=
  ⟨_, hi, .inl ⟨rfl, _, .of hL⟩, h H (.refl _) _ fun v H1 s dv => ⟨L, xs, v, rfl, rfl, s _ _ hL, by rw [sizeLine_eq]; omega, k v H1 s dv⟩⟩
theorem s_parU {ta : TA} {i j : Nat} (h : ta σ H fun vs H1 => ∃ v w, vs = [v, w] ∧ D.nx ((σ.set i (some v)).set j (some w)) H1) : tPar i j ta D σ H := h
theorem ta_consU {ta : TA} {Q : List V → Hp → Prop} (h : te σ H fun v H1 => ta σ H1 fun vs H2 => Q (v :: vs) H2) : tCons te ta σ H Q := h
/-- signs.extend(a list of data) -/
theorem s_extD {i : Nat} {L : Addr} {xs : List V} {ds : List PyData} (hi : σ[i]? = some (some (.ref L))) (hL : H L = some (.lst xs)) (h : EvD K te σ H (.list ds)) (hl : xs.length + ds.length ≤ 100000)
    (k : ∀ ys H1, Same H H1 → DdA K H1 ys ds → D.nx σ (upd H1 L (.lst (xs ++ ys)))) : tDrop (tBM K "list" rExtend (tVar i) (tCons te tNil)) D σ H :=
  ⟨_, hi, .inl ⟨rfl, _, .of hL⟩, h H (.refl _) _ fun v H1 s dv => by
    obtain ⟨b, ys, rfl, hb, hys⟩ := dd_list dv
    exact ⟨L, b, xs, ys, rfl, rfl, s _ _ hL, hb, by rw [dda_len hys, sizeLine_eq]; omega, k ys H1 s hys⟩⟩
end
theorem tx_gone : ("gone" : Str) = tx [103, 111, 110, 101] := by decide +kernel
theorem tx_old : ("old" : Str) = tx [111, 108, 100] := by decide +kernel
theorem tx_new : ("new" : Str) = tx [110, 101, 119] := by decide +kernel
section
variable {P : Program} {w : World} {K : PySem.W.Frag} {mg : Str → Option Value} {base : Heap}
theorem c_behind_in (T : Tx K mg) : Cal P w K mg base 3 "behind_in" (sp_behind_in K) [] := by
  obtain ⟨fd, F⟩ := T.c.def_ 26 (d := d_behind_in) rfl
  refine cal_of (k := 2) F (g_behind_in T) (F.bindsN fun _ _ _ _ _ _ us hl => match us, hl with | [_, _], _ => rfl) sc_behind_in (spD_len (by rintro ds d h; exact len_behind_in h)) fun cdv A outer s H vs Q E hr h => ⟨_, (pss_cons (ps_par (i := 2) (j := 3) (by rfl) sc_behind_in.nd rfl rfl (by decide) rfl rfl (pa_cons (pe_mk0 (m_Plain T) hr (by decide) (by rfl)) (pa_cons (pe_lst pa_nil) pa_nil)) (by rfl))
      (pss_cons (ps_for PassesOwn.never rfl (uPiList K (pe_c (c_pairs_in T) hr (by decide) (by rfl) (pa_cons (pv 0) pa_nil))) (uPgTup (n := 2) K (by rfl) (pgs_cons (pg_name (i := 4) sc_behind_in.nd rfl (.inl rfl)) (pgs_cons (pg_name (i := 5) sc_behind_in.nd rfl (.inl rfl)) pgs_nil)))
        (pss_one (ps_if (pt_cmpR (uEq K hr.units) (pv 4) pe_str (nomark _)) (pss_one (ps_expr (pe_bm PySem.F.plainAttrs_list PySem.F.slot_list_append PySem.F.type_list_append mt_append (pv 3) (pa_cons (pe_tup (pa_cons pe_str (pa_cons (pv 5) pa_nil))) pa_nil)))) (pss_one (ps_if (pt_cmpR (uEq K hr.units) (pv 4) pe_str (nomark _)) (pss_one (ps_expr (pe_bm PySem.F.plainAttrs_list PySem.F.slot_list_extend PySem.F.type_list_extend mt_extend (pv 3) (pa_cons (pe_op uMul (pe_lst (pa_cons (pe_tup (pa_cons pe_str (pa_cons pe_non pa_nil))) pa_nil)) (pv 5)) pa_nil)))) (pss_one (ps_expr (pe_bm PySem.F.plainAttrs_list PySem.F.slot_list_extend PySem.F.type_list_extend mt_extend (pv 3) (pa_cons (pe_lc (own := [("sign", 6)]) (by rfl) sc_behind_in.nd (pi_str (pv 5)) (blkOk_by (N := ["one", "two", "plain", "signs", "word", "value", "sign", "at", "lap", "kind"]) (sc := defScope s_behind_in) (by decide +kernel)) (fun _ _ _ _ _ => (pg_name (i := 6) sc_behind_in.nd rfl (Or.inl rfl))) (fun _ _ _ _ _ => pts_nil) (fun _ _ _ _ _ => (pe_tup (pa_cons pe_str (pa_cons (pv 6) pa_nil))))) pa_nil)))))))))
      (pss_cons (ps_set (i := 7) sc_behind_in.nd rfl (.inl rfl) pe_int)
      (pss_cons (ps_for PassesOwn.never rfl (uPiList K (pe_c (c_pairs_in T) hr (by decide) (by rfl) (pa_cons (pv 1) pa_nil))) (uPgTup (n := 2) K (by rfl) (pgs_cons (pg_name (i := 4) sc_behind_in.nd rfl (.inl rfl)) (pgs_cons (pg_name (i := 5) sc_behind_in.nd rfl (.inl rfl)) pgs_nil)))
        (pss_cons (ps_if (pt_cmpR (uEq K hr.units) (pv 4) pe_str (nomark _)) (pss_cons (ps_expr (pe_mt (m_Plain_put_text T) hr (by decide) (pv 2) (pa_cons (pv 5) pa_nil)))
      (pss_one ps_continue)) pss_nil)
      (pss_one (ps_for PassesOwn.never rfl (pi_range1 (by rfl) (z_range T) (pa_cons (pv 5) pa_nil)) (pg_name (i := 8) sc_behind_in.nd rfl (.inl rfl))
        (pss_cons (ps_set (i := 7) sc_behind_in.nd rfl (.inl rfl) (pe_c (c_passed_gone T) hr (by decide) (by rfl) (pa_cons (pv 2) (pa_cons (pv 3) (pa_cons (pv 7) pa_nil)))))
      (pss_cons (ps_asg (pe_ix (uIx K) (pv 3) (pv 7) (fun _ _ => rfl)) (uPgTup (n := 2) K (by rfl) (pgs_cons (pg_name (i := 9) sc_behind_in.nd rfl (.inl rfl)) (pgs_cons (pg_name (i := 6) sc_behind_in.nd rfl (.inl rfl)) pgs_nil))))
      (pss_cons (ps_aug (i := 7) sc_behind_in.nd rfl (.inl rfl) pe_int uIAdd)
      (pss_one (ps_if (PW.pt (pw_and (pt_cmpR (uEq K hr.units) (pv 9) pe_str (nomark _)) (pw_and1 (pt_cmpR (uEq K hr.units) (pv 4) pe_str (nomark _))))) (pss_one (ps_expr (pe_mt (m_Plain_keep_signs T) hr (by decide) (pv 2) (pa_cons pe_int pa_nil)))) (pss_one (ps_if (pt_cmpR (uEq K hr.units) (pv 9) pe_str (nomark _)) (pss_one (ps_expr (pe_mt (m_Plain_drop_signs T) hr (by decide) (pv 2) (pa_cons pe_int pa_nil)))) (pss_one (ps_if (pt_cmpR (uEq K hr.units) (pv 4) pe_str (nomark _)) (pss_one (ps_expr (pe_mt (m_Plain_put_text T) hr (by decide) (pv 2) (pa_cons (pv 6) pa_nil)))) pss_nil)))))))))))))
      (pss_cons (ps_expr (pe_c (c_passed_gone T) hr (by decide) (by rfl) (pa_cons (pv 2) (pa_cons (pv 3) (pa_cons (pv 7) pa_nil)))))
      (pss_one (ps_ret (pe_mt0 (m_Plain_told T) hr (by decide) (pv 2))))))))), ?_⟩
  obtain ⟨ds, d, ⟨a, e1, e2, h1, h2, ht⟩, hvs, q⟩ := h
  obtain ⟨x0, y0, rfl, hx, hy⟩ := dda2 hvs
  have hv1 := h1.vo
  have hv2 := h2.vo
  have hl1 := h1.hi
  have hEl : (entG e1).length ≤ 1900 := by have := entG_len e1; omega
  refine s_seq (s_parU (ta_consU ?_))
  refine e_mkP fun x l H1 hxn hln s1 p1 => ?_
  refine ⟨by show 0 ≤ sizeLine; decide, fun S hS => ?_⟩
  refine ⟨_, _, rfl, ?_⟩
  have sS := sm_new (o := .lst []) hS
  have s2 := s1.trans sS
  have p2 := p1.same sS
  have eS : upd H1 S (.lst []) S = some (.lst []) := upd_same
  have hSH : H S = none := s1.free hS
  have hSx : S ≠ x := fun e => by
    obtain ⟨dx, ex⟩ := p1.ob
    rw [e, ex] at hS
    cases hS
  have hSl : S ≠ l := fun e => by rw [e, p1.ws] at hS; cases hS
  generalize upd H1 S (.lst []) = H2 at s2 p2 eS
  have putS : ∀ {H3 : Hp} {st : PS} {o : HO}, PlAt (He.ga K "Plain") H3 x l st → PlAt (He.ga K "Plain") (upd H3 S o) x l st := fun {H3 st o} p => by
    obtain ⟨⟨dx, ex⟩, ew⟩ := p
    exact ⟨⟨dx, by rw [upd_ne hSx.symm]; exact ex⟩, by rw [upd_ne hSl.symm]; exact ew⟩
  dsimp only
  refine s_seq (s_forL (l := e1) (gi := prD) (el_call (ea_cons (ev_var rfl (dd_sm s2 _ _ hx)) ea_nil) (spN.of (R := R_pairs_in) (.mk a e1 h1)))
    (fun p xs i σ' H' => (∃ (z4 z5 z6 : Option V), σ' = [some x0, some y0, some (.ref x), some (.ref S), z4, z5, z6, none, none, none]) ∧ PlAt (He.ga K "Plain") H' x l PS.nil ∧ Same H H' ∧ p ≠ S ∧ H' p = some (.lst xs) ∧ DdA K H' xs (e1.map prD) ∧ ∃ gx, H' S = some (.lst gx) ∧ DdA K H' gx ((entG (e1.take i)).map gD))
    (fun p xs H3 hpn s3 hp hda => ⟨⟨none, none, none, rfl⟩, p2.same s3, s2.trans s3, (ne_of_none eS hpn).symm, hp, hda, [], s3 _ _ eS, .nil⟩)
    (fun p xs i σ' H' h => ⟨h.2.2.2.2.1, h.2.2.2.2.2.1⟩) ?_ ?_)
  · rintro p xs i c σ' H3 z hc ⟨⟨z4, z5, z6, rfl⟩, pl, s3, hpS, hp, hda, gx, eS3, hgx⟩ dz
    have hok := h1.ok c (List.mem_of_getElem? hc)
    have hge : entG (e1.take (i + 1)) = entG (e1.take i) ++ entW c := by rw [take_succ_of hc, entG_snoc]
    have hgl := entG_take e1 (i + 1)
    rw [hge, List.length_append] at hgl
    have hgxl : gx.length = (entG (e1.take i)).length := by rw [dda_len hgx, List.length_map]
    have fin : ∀ (ys : List V) (H4 H5 : Hp) (z4 z5 : Option V), Same H3 H4 → DdA K H4 ys ((entW c).map gD) → H5 = upd H4 S (.lst (gx ++ ys)) → (∃ (z4' z5' z6' : Option V), [some x0, some y0, some (V.ref x), some (.ref S), z4, z5, z6, none, none, none] = [some x0, some y0, some (.ref x), some (.ref S), z4', z5', z6', none, none, none]) ∧ PlAt (He.ga K "Plain") H5 x l PS.nil ∧ Same H H5 ∧ p ≠ S ∧ H5 p = some (.lst xs) ∧ DdA K H5 xs (e1.map prD) ∧ ∃ gx, H5 S = some (.lst gx) ∧ DdA K H5 gx ((entG (e1.take (i + 1))).map gD) := fun ys H4 H5 z4 z5 s4 hys e5 => by
      subst e5
      have ts : Ts H4 (upd H4 S (.lst (gx ++ ys))) := Ts.put (s4 _ _ eS3) (fun xs z => by cases z) (fun o u z => by cases z)
      refine ⟨⟨_, _, _, rfl⟩, putS (pl.same s4), sm_mut (s3.trans s4) hSH, hpS, by rw [upd_ne hpS]; exact s4 _ _ hp, dda_ts ts _ _ (him_pr e1) (dda_sm s4 _ _ hda), _, upd_same, ?_⟩
      rw [hge, List.map_append]
      exact dda_ts ts _ _ (by rw [← List.map_append]; exact imm_g _) (dda_app (dda_sm s4 _ _ hgx) hys)
    refine g_pair dz fun x1 x2 d1 d2 => ?_
    cases c with
    | d n =>
      refine s_ifT (EvT.is (et_test (ev_eqS (b := [100]) (ev_var rfl d1) (ev_const (by decide +kernel)))) (decide_eq_true rfl)) fun H4 s4 => ?_
      exact s_appE (K := K) (d := gD (.gone n)) rfl (s4 _ _ eS3) (ev_tup (ea_cons (ev_const tx_gone) (ea_cons (ev_var rfl (dd_sm s4 _ _ d2)) ea_nil)) (by show 2 ≤ sizeLine; decide)) (by omega) fun v H5 s5 dv => fin [v] H5 _ _ _ (s4.trans s5) (.cons dv .nil) rfl
    | k n =>
      refine s_ifF (EvT.is (et_test (ev_eqS (b := [100]) (ev_var rfl d1) (ev_const (by decide +kernel)))) (decide_eq_false (show ¬ ([107] : List Nat) = [100] by decide))) fun H4 s4 => ?_
      refine s_ifT (EvT.is (et_test (ev_eqS (b := [107]) (ev_var rfl (dd_sm s4 _ _ d1)) (ev_const (by decide +kernel)))) (decide_eq_true rfl)) fun H5 s5 => ?_
      have hgl' : (entG (e1.take i)).length + n ≤ 1900 := by
        have : (entW (.k n)).length = n := List.length_replicate
        omega
      refine s_extD (K := K) (ds := (entW (.k n)).map gD) rfl (s5 _ _ (s4 _ _ eS3)) (EvD.is (ev_rep1 (k := (n : Nat)) (ev_lst (ea_cons (ev_tup (ea_cons (ev_const tx_old) (ea_cons ev_non ea_nil)) (by show 2 ≤ sizeLine; decide)) ea_nil) (by show 1 ≤ sizeLine; decide)) (ev_var rfl (dd_sm (s4.trans s5) _ _ d2)) ⟨by omega, by omega⟩) ?_) ?_ fun ys H6 s6 dys => fin ys H6 _ _ _ ((s4.trans s5).trans s6) dys rfl
      · show _ = PyData.list ((List.replicate n Gn.old).map gD)
        rw [List.map_replicate]
        rfl
      · show gx.length + ((List.replicate n Gn.old).map gD).length ≤ _
        rw [List.length_map, List.length_replicate]
        omega
    | p t =>
      refine s_ifF (EvT.is (et_test (ev_eqS (b := [100]) (ev_var rfl d1) (ev_const (by decide +kernel)))) (decide_eq_false (show ¬ ([112] : List Nat) = [100] by decide))) fun H4 s4 => ?_
      refine s_ifF (EvT.is (et_test (ev_eqS (b := [107]) (ev_var rfl (dd_sm s4 _ _ d1)) (ev_const (by decide +kernel)))) (decide_eq_false (show ¬ ([112] : List Nat) = [107] by decide))) fun H5 s5 => ?_
      have hgl' : (entG (e1.take i)).length + t.length ≤ 1900 := by
        have : (entW (.p t)).length = t.length := List.length_map ..
        omega
      refine s_extD (K := K) (ds := (entW (.p t)).map gD) rfl (s5 _ _ (s4 _ _ eS3)) (EvD.is (EvL.toD (ev_lc1 (l := t) (gi := sgn) (fun c => gD (.new c)) (wk_str (ev_var rfl (dd_sm (s4.trans s5) _ _ d2))) (by omega) (fun _ _ => rfl) fun c hc H' z s dz => ev_tup (ea_cons (ev_const tx_new) (ea_cons (ev_var rfl dz) ea_nil)) (by show 2 ≤ sizeLine; decide))) ?_) ?_ fun ys H6 s6 dys => fin ys H6 _ _ _ ((s4.trans s5).trans s6) dys rfl
      · show _ = PyData.list ((t.map Gn.new).map gD)
        rw [List.map_map]
        rfl
      · show gx.length + ((t.map Gn.new).map gD).length ≤ _
        rw [List.length_map, List.length_map]
        omega
  · rintro p xs σ' H3 ⟨⟨z4, z5, z6, rfl⟩, pl, s3, hpS, hp, hda, gx, eS3, hgx⟩
    rw [List.take_length] at hgx
    have hO1 := fl_entG e1
    have hcl := cmp_len _ (opsOf e1) (opsOf e2) (Nat.le_refl _)
    rw [opsOf_len, opsOf_len] at hcl
    have htk : tk (opsOf e2) = leftO (opsOf e1) := by rw [tk_opsOf, left_opsOf, ht]
    have hS3 : S ≠ x ∧ S ≠ l := ⟨hSx, hSl⟩
    have hxH : H x = none := hxn
    have hlH : H l = none := hln
    generalize hC : Ed.cmp (opsOf e1) (opsOf e2) = C at hcl q
    generalize hes : entG e1 = es at hgx hEl hO1
    have imgx := imm_g es
    dsimp only
    refine s_seq (s_set (K := K) ev_int fun v7 H4 s4 d7 => ?_)
    rw [dd_int d7]
    refine s_seq (s_forL (l := e2) (gi := prD) (el_call (ea_cons (ev_var rfl (dd_sm (s3.trans s4) _ _ hy)) ea_nil) (spN.of (R := R_pairs_in) (.mk a e2 h2)))
      (fun p xs i σ' H' => (∃ (done : List Op) (at' : Nat) (z4 z5 z6 z8 z9 : Option V), σ' = [some x0, some y0, some (.ref x), some (.ref S), z4, z5, z6, some (.int (at' : Nat)), z8, z9] ∧ PlAt (He.ga K "Plain") H' x l (PO done) ∧ at' ≤ es.length ∧ done ++ Ed.cmp (fl (es.drop at')) (opsOf (e2.drop i)) = C ∧ tk (opsOf (e2.drop i)) = leftO (fl (es.drop at'))) ∧ Same H H' ∧ (p ≠ x ∧ p ≠ l) ∧ H' p = some (.lst xs) ∧ DdA K H' xs (e2.map prD) ∧ H' S = some (.lst gx) ∧ DdA K H' gx (es.map gD))
      (fun p xs H5 hpn s5 hp hda => ⟨⟨[], 0, z4, z5, z6, none, none, rfl, (pl.same s4).same s5, Nat.zero_le _, by rw [List.drop_zero, List.drop_zero, hO1]; exact hC, by rw [List.drop_zero, List.drop_zero, hO1]; exact htk⟩, (s3.trans s4).trans s5, ⟨fun e => (by obtain ⟨dx, ex⟩ := (pl.same s4).ob; rw [e, ex] at hpn; cases hpn), fun e => (by rw [e, (pl.same s4).ws] at hpn; cases hpn)⟩, hp, hda, (s4.trans s5) _ _ eS3, dda_sm (s4.trans s5) _ _ hgx⟩)
      (fun p xs i σ' H' h => ⟨h.2.2.2.1, h.2.2.2.2.1⟩) ?_ ?_)
    · rintro p xs i c σ' H5 z hc ⟨⟨done, at', z4, z5, z6, z8, z9, rfl, pl, hat, hinv, htk⟩, sh, ⟨np1, np2⟩, hp, hda, eS5, hgx⟩ dz
      have hdrop : e2.drop i = c :: e2.drop (i + 1) := by
        have hil := (List.getElem?_eq_some_iff.mp hc).1
        rw [List.drop_eq_getElem_cons hil, (List.getElem?_eq_some_iff.mp hc).2]
      rw [hdrop, opsOf_cons] at hinv htk
      have hok := h2.ok c (List.mem_of_getElem? hc)
      generalize opsOf (e2.drop (i + 1)) = R at hinv htk
      refine g_pair dz fun x1 x2 d1 d2 => ?_
      by_cases hcp : ∃ t, c = .p t
      · obtain ⟨t, rfl⟩ := hcp
        refine s_seq (s_ifT (EvT.is (et_test (ev_eqS (b := [112]) (ev_var rfl d1) (ev_const (by decide +kernel)))) (decide_eq_true rfl)) fun H6 s6 => ?_)
        have hdl : done.length ≤ 1800 := by
          have := congrArg List.length hinv
          rw [List.length_append] at this
          omega
        have hz := PO_size done
        refine s_seq (s_putP (z := t) rfl (pl.same s6) (by have := hok.2.2; unfold PS.size at hz; omega) (ev_var rfl (dd_sm s6 _ _ d2)) fun H7 p7 sx7 => ?_)
        refine ⟨⟨done ++ t.map .p, at', some x1, some x2, z6, z8, z9, rfl, by rw [PO_ps]; exact p7, hat, ?_, ?_⟩, sx_same (sh.trans s6) hxH hlH sx7, ⟨np1, np2⟩, sx7 _ _ (s6 _ _ hp) np1 np2, dda_ts (sx7.ts (pl.same s6)) _ _ (him_pr e2) (dda_sm s6 _ _ hda), sx7 _ _ (s6 _ _ eS5) hSx hSl, dda_ts (sx7.ts (pl.same s6)) _ _ imgx (dda_sm s6 _ _ hgx)⟩
        · rw [← hinv, List.append_assoc]
          congr 1
          exact (cmp_ps _ _ t).symm
        · rw [← htk, tk_app, show tk (opsW (.p t)) = 0 from tk_p t, Nat.zero_add]
      · have hn : ∃ (n : Nat) (o : Op), ((o = .k ∧ kd c = [107]) ∨ (o = .d ∧ kd c = [100])) ∧ vl c = .int (n : Nat) ∧ opsW c = List.replicate n o ∧ n ≤ 999 := by
          cases c with
          | k n => exact ⟨n, .k, .inl ⟨rfl, rfl⟩, rfl, rfl, hok.2⟩
          | d n => exact ⟨n, .d, .inr ⟨rfl, rfl⟩, rfl, rfl, hok.2⟩
          | p t => exact absurd ⟨t, rfl⟩ hcp
        obtain ⟨n, o, ho, hvl, hops, hn9⟩ := hn
        have ho2 : o = .k ∨ o = .d := ho.imp (·.1) (·.1)
        rw [hvl] at d2
        rw [hops] at hinv htk
        have hk112 : ¬ kd c = [112] := by
          rcases ho with ⟨_, e⟩ | ⟨_, e⟩ <;> rw [e] <;> decide
        refine s_seq (s_ifF (EvT.is (et_test (ev_eqS (b := [112]) (ev_var rfl d1) (ev_const (by decide +kernel)))) (decide_eq_false hk112)) fun H6 s6 => ?_)
        refine s_next ?_
        dsimp only
        refine (ev_var (i := 5) rfl (dd_sm s6 _ _ d2)) H6 (.refl _) _ fun u H7 s7 du => ?_
        rw [dd_int du]
        refine ⟨(n : Nat), rfl, by omega, by omega, ?_⟩
        rw [show ((n : Nat) : Int).toNat = n by omega]
        have ew := dd_str d1
        subst ew
        refine for_range (fun lap σ' H' => ∃ (done : List Op) (at' : Nat) (z6 z8 z9 : Option V), σ' = [some x0, some y0, some (.ref x), some (.ref S), some (.str (tx (kd c))), some x2, z6, some (.int (at' : Nat)), z8, z9] ∧ PlAt (He.ga K "Plain") H' x l (PO done) ∧ at' ≤ es.length ∧ done ++ Ed.cmp (fl (es.drop at')) (List.replicate (n - lap) o ++ R) = C ∧ tk (List.replicate (n - lap) o ++ R) = leftO (fl (es.drop at')) ∧ Same H H' ∧ H' p = some (.lst xs) ∧ DdA K H' xs (e2.map prD) ∧ H' S = some (.lst gx) ∧ DdA K H' gx (es.map gD))
          ⟨done, at', z6, z8, z9, rfl, (pl.same s6).same s7, hat, hinv, htk, (sh.trans s6).trans s7, (s6.trans s7) _ _ hp, dda_sm (s6.trans s7) _ _ hda, (s6.trans s7) _ _ eS5, dda_sm (s6.trans s7) _ _ hgx⟩ ?_ ?_
        · rintro lap σ' H8 hlap ⟨done, at', z6, z8, z9, rfl, pl, hat, hinv, htk, sh, hp, hda, eS8, hgx⟩
          have hrep : List.replicate (n - lap) o ++ R = o :: (List.replicate (n - (lap + 1)) o ++ R) := by
            rw [show n - lap = (n - (lap + 1)) + 1 by omega, List.replicate_succ]
            rfl
          rw [hrep] at hinv htk
          generalize List.replicate (n - (lap + 1)) o ++ R = R' at hinv htk
          refine s_seq ?_
          refine ⟨.ref x, rfl, .ref S, rfl, .int (at' : Nat), rfl, ?_⟩
          refine ⟨x, l, S, PO done, gx, es, at', rfl, pl, eS8, hSl, hgx, hat, by omega, fun H9 p9 sx9 => ?_⟩
          have ts9 := sx9.ts pl
          have sh9 := sx_same sh hxH hlH sx9
          have hp9 := sx9 _ _ hp np1 np2
          have hda9 := dda_ts ts9 _ _ (him_pr e2) hda
          have eS9 := sx9 _ _ eS8 hSx hSl
          have hgx9 := dda_ts ts9 _ _ imgx hgx
          rw [fl_skip (es.drop at'), cmp_ds o ho2] at hinv
          rw [fl_skip (es.drop at'), left_fl_d] at htk
          rw [List.drop_drop] at hinv htk
          rw [← PO_ds] at p9
          rw [← List.append_assoc] at hinv
          have hng := drop_gn (es.drop at')
          rw [List.drop_drop] at hng
          have hgl := gn_len (es.drop at')
          rw [List.length_drop] at hgl
          generalize done ++ List.replicate (gs (es.drop at')) .d = done1 at hinv p9
          generalize hat1 : at' + gn (es.drop at') = at1 at hinv htk hng
          have htk' : tk R' + 1 = leftO (fl (es.drop at1)) := by
            rw [← htk]
            rcases ho2 with rfl | rfl <;> rfl
          have hlt1 : at1 < es.length := by
            refine Nat.lt_of_not_le fun hge => ?_
            rw [List.drop_of_length_le hge] at htk'
            cases htk'
          have hd1 : es.drop at1 = es[at1] :: es.drop (at1 + 1) := List.drop_eq_getElem_cons hlt1
          rw [hd1, fl_cons] at hinv htk'
          have hyg : ∀ m, es[at1] ≠ .gone m := fun m e => hng m (es.drop (at1 + 1)) (by rw [hd1, e])
          have hgety : es[at1]? = some es[at1] := List.getElem?_eq_getElem hlt1
          generalize es[at1] = y at hinv htk' hyg hgety
          have hdl : done1.length ≤ 1800 := by
            have := congrArg List.length hinv
            rw [List.length_append] at this
            omega
          have hz := PO_size done1
          dsimp only [gName]
          refine s_seq (s_asgPair (ev_ixL (ds := es.map gD) (d := gD y) (ev_var rfl (.lst eS9 hgx9)) (ev_var rfl (.int (at1 : Nat))) (atI_nat (by rw [List.getElem?_map, hgety]; rfl))) fun u1 u2 H10 s10 du1 du2 => ?_)
          have eu1 := dd_str du1
          subst eu1
          refine s_seq (s_augI (K := K) (a := (at1 : Nat)) rfl ev_int fun H11 s11 => ?_)
          have s911 := s10.trans s11
          have pl11 := p9.same s911
          rw [show ((at1 : Nat) : Int) + 1 = ((at1 + 1 : Nat) : Int) by omega]
          have fin : ∀ (done2 : List Op) (H12 : Hp), PlAt (He.ga K "Plain") H12 x l (PO done2) → Sx x l H11 H12 → done2 ++ Ed.cmp (fl (es.drop (at1 + 1))) R' = C → tk R' = leftO (fl (es.drop (at1 + 1))) → ∃ (done : List Op) (at' : Nat) (z6 z8 z9 : Option V), [some x0, some y0, some (.ref x), some (.ref S), some (.str (tx (kd c))), some x2, some u2, some (.int ((at1 + 1 : Nat) : Int)), some (.int (0 + (lap : Nat))), some (.str (tx (gk y)))] = [some x0, some y0, some (.ref x), some (.ref S), some (.str (tx (kd c))), some x2, z6, some (.int (at' : Nat)), z8, z9] ∧ PlAt (He.ga K "Plain") H12 x l (PO done) ∧ at' ≤ es.length ∧ done ++ Ed.cmp (fl (es.drop at')) R' = C ∧ tk R' = leftO (fl (es.drop at')) ∧ Same H H12 ∧ H12 p = some (.lst xs) ∧ DdA K H12 xs (e2.map prD) ∧ H12 S = some (.lst gx) ∧ DdA K H12 gx (es.map gD) := fun done2 H12 p12 sx12 hi ht2 => by
            have ts12 := sx12.ts pl11
            exact ⟨done2, at1 + 1, _, _, _, rfl, p12, hlt1, hi, ht2, sx_same (sh9.trans s911) hxH hlH sx12, sx12 _ _ (s911 _ _ hp9) np1 np2, dda_ts ts12 _ _ (him_pr e2) (dda_sm s911 _ _ hda9), sx12 _ _ (s911 _ _ eS9) hSx hSl, dda_ts ts12 _ _ imgx (dda_sm s911 _ _ hgx9)⟩
          cases y with
          | gone m => exact absurd rfl (hyg m)
          | old =>
            have htk2 : tk R' = leftO (fl (es.drop (at1 + 1))) := Nat.succ.inj htk'
            rcases ho with ⟨rfl, ekd⟩ | ⟨rfl, ekd⟩
            · refine s_ifT (EvT.is (et_and (et_test (ev_eqS (b := [111, 108, 100]) (ev_var (i := 9) rfl (.str (tx (gk Gn.old)))) (ev_const tx_old))) (fun _ => et_test (ev_eqS (b := [107]) (ev_var (i := 4) rfl (.str (tx (kd c)))) (ev_const (by decide +kernel))))) (show _ = true by rw [ekd]; decide)) fun H12 s12 => ?_
              refine s_keepP (n := 1) rfl (pl11.same s12) (by unfold PS.size at hz ⊢; omega) ev_int fun H13 p13 sx13 => ?_
              refine fin (done1 ++ [.k]) H13 (by rw [PO_snoc]; exact p13) ((Sx.of s12).trans sx13) ?_ htk2
              rw [← hinv, List.append_assoc]
              congr 1
              exact (cmp_kk _ _).symm
            · refine s_ifF (EvT.is (et_and (et_test (ev_eqS (b := [111, 108, 100]) (ev_var (i := 9) rfl (.str (tx (gk Gn.old)))) (ev_const tx_old))) (fun _ => et_test (ev_eqS (b := [107]) (ev_var (i := 4) rfl (.str (tx (kd c)))) (ev_const (by decide +kernel))))) (show _ = false by rw [ekd]; decide)) fun H12 s12 => ?_
              refine s_ifT (EvT.is (et_test (ev_eqS (b := [111, 108, 100]) (ev_var (i := 9) rfl (.str (tx (gk Gn.old)))) (ev_const tx_old))) (decide_eq_true rfl)) fun H13 s13 => ?_
              refine s_dropP (n := 1) rfl (pl11.same (s12.trans s13)) ev_int fun H14 p14 sx14 => ?_
              refine fin (done1 ++ [.d]) H14 (by rw [PO_snoc]; exact p14) ((Sx.of (s12.trans s13)).trans sx14) ?_ htk2
              rw [← hinv, List.append_assoc]
              congr 1
              exact (cmp_kd _ _).symm
          | new ch =>
            have htk2 : tk R' = leftO (fl (es.drop (at1 + 1))) := Nat.succ.inj htk'
            have hno : ¬ gk (Gn.new ch) = [111, 108, 100] := (show ¬ ([110, 101, 119] : List Nat) = [111, 108, 100] by decide)
            refine s_ifF (EvT.is (et_and (b := false) (et_test (ev_eqS (b := [111, 108, 100]) (ev_var (i := 9) rfl (.str (tx (gk (Gn.new ch))))) (ev_const tx_old))) (fun e => absurd (of_decide_eq_true e) hno)) (Bool.and_false _)) fun H12 s12 => ?_
            refine s_ifF (EvT.is (et_test (ev_eqS (b := [111, 108, 100]) (ev_var (i := 9) rfl (.str (tx (gk (Gn.new ch))))) (ev_const tx_old))) (decide_eq_false hno)) fun H13 s13 => ?_
            rcases ho with ⟨rfl, ekd⟩ | ⟨rfl, ekd⟩
            · refine s_ifT (EvT.is (et_test (ev_eqS (b := [107]) (ev_var (i := 4) rfl (.str (tx (kd c)))) (ev_const (by decide +kernel)))) (show _ = true by rw [ekd]; decide)) fun H14 s14 => ?_
              have s1214 := (s12.trans s13).trans s14
              refine s_putP (z := [ch]) rfl (pl11.same s1214) (by unfold PS.size at hz; show _ + 1 ≤ _; omega) (ev_var (i := 6) rfl (dd_sm ((s11.trans s12).trans (s13.trans s14)) _ _ du2)) fun H15 p15 sx15 => ?_
              refine fin (done1 ++ [.p ch]) H15 (by rw [PO_snoc]; exact p15) ((Sx.of s1214).trans sx15) ?_ htk2
              rw [← hinv, List.append_assoc]
              congr 1
              exact (cmp_pk _ _ _).symm
            · refine s_ifF (EvT.is (et_test (ev_eqS (b := [107]) (ev_var (i := 4) rfl (.str (tx (kd c)))) (ev_const (by decide +kernel)))) (show _ = false by rw [ekd]; decide)) fun H14 s14 => ?_
              refine fin done1 H14 (pl11.same ((s12.trans s13).trans s14)) (Sx.of ((s12.trans s13).trans s14)) ?_ htk2
              rw [← hinv]
              congr 1
              exact (cmp_pd _ _ _).symm
        · rintro σ' H8 ⟨done, at', z6, z8, z9, rfl, pl, hat, hinv, htk, sh, hp, hda, eS8, hgx⟩
          rw [Nat.sub_self] at hinv htk
          exact ⟨⟨done, at', _, _, z6, z8, z9, rfl, pl, hat, hinv, htk⟩, sh, ⟨np1, np2⟩, hp, hda, eS8, hgx⟩
    · rintro p xs σ' H5 ⟨⟨done, at', z4, z5, z6, z8, z9, rfl, pl, hat, hinv, htk⟩, sh, ⟨np1, np2⟩, hp, hda, eS5, hgx⟩
      rw [List.drop_length] at hinv htk
      have hleft : leftO (fl (es.drop at')) = 0 := htk.symm
      refine s_seq ?_
      refine ⟨.ref x, rfl, .ref S, rfl, .int (at' : Nat), rfl, ?_⟩
      refine ⟨x, l, S, PO done, gx, es, at', rfl, pl, eS5, hSl, hgx, hat, by omega, fun H6 p6 sx6 => ?_⟩
      have hend : done ++ List.replicate (gs (es.drop at')) .d = C := by
        rw [show opsOf ([] : List Wd) = [] from rfl, cmp_nil, fl_skip (es.drop at')] at hinv
        rw [fl_skip (es.drop at'), left_fl_d] at hleft
        have hng := drop_gn (es.drop at')
        cases hr : (es.drop at').drop (gn (es.drop at')) with
        | nil =>
          rw [hr] at hinv
          rw [← hinv]
          congr 1
          exact (List.append_nil _).symm
        | cons y r =>
          rw [hr] at hleft hng
          cases y with
          | gone m => exact absurd rfl (hng m r)
          | old => cases hleft
          | new ch => cases hleft
      rw [← PO_ds, hend] at p6
      have hz := PO_size C
      exact s_toldP rfl p6 (by omega) fun v H7 dv sx7 => q v H7 (sx_same (sx_same sh hxH hlH sx6) hxH hlH sx7) dv
end
end K75


namespace K75
open PySem PySem.Spec L2 T Ed
open PyProof.Rows hiding St
open C8 (Cal Mak Met pe_c pe_mk pe_mt pe_mt0 pe_gc)
/-! ### an edit behind another: the def; what it raises -/
inductive R_edit_behind : List PyData → PyData → Prop
  | mk (a : List Nat) (g : Good a) (e1 e2 : List Wd) (h1 : OkE a e1) (h2 : OkE a e2) (h : taken e2 = lefts e1) : R_edit_behind [.str (tx a), eD e1, eD e2] (eD (PO (Ed.cmp (opsOf e1) (opsOf e2))).told)
abbrev sp_edit_behind (K : PySem.W.Frag) : Sp := spD K R_edit_behind
theorem len_edit_behind {ds : List PyData} {d : PyData} (h : R_edit_behind ds d) : ds.length = 3 := by cases h; rfl
/-- the dict of a NotKept -/
def nkD (n : Int) : HO := .xd [("witness", .int n), ("promise", .str "length")]
abbrev sp_NotKept_init (K : PySem.W.Frag) : Sp := fun vs H Q _ => ∃ (a : Addr) (pv wv : V), vs = [.ref a, pv, wv] ∧ H a = some (exo a (He.ga K "NotKept") none) ∧
  ∀ (d : Addr) (H' : Hp), H d = none → H' a = some (exo a (He.ga K "NotKept") (some d)) → H' d = some (exd d [("witness", wv), ("promise", pv)]) → (∀ b o, b ≠ a → H b = some o → H' b = some o) → Q .non H'
abbrev spx_need_taken (K : PySem.W.Frag) : Sp := fun vs H _ E => ∃ (y : V) (a : List Nat) (ws : List Wd) (n : Nat), vs = [y, .int (n : Nat)] ∧ OkE a ws ∧ Dd K H y (eD ws) ∧ taken ws ≠ n ∧ ∀ (d : Addr) (H' : Hp), Same H H' → H' d = some (nkD (taken ws : Nat)) → E (.ref (He.ga K "NotKept")) (some d) H'
abbrev spx_edit_behind (K : PySem.W.Frag) : Sp := fun vs H _ E => ∃ (x y z : V) (a : List Nat) (e1 e2 : List Wd), vs = [x, y, z] ∧ Good a ∧ OkE a e1 ∧ OkE a e2 ∧ Dd K H x (.str (tx a)) ∧ Dd K H y (eD e1) ∧ Dd K H z (eD e2) ∧ taken e2 ≠ lefts e1 ∧ ∀ (d : Addr) (H' : Hp), Same H H' → H' d = some (nkD (taken e2 : Nat)) → E (.ref (He.ga K "NotKept")) (some d) H'
section
variable {P : Program} {w : World} {K : PySem.W.Frag} {mg : Str → Option Value} {base : Heap}
theorem c_edit_behind (T : Tx K mg) : Cal P w K mg base 5 "edit_behind" (sp_edit_behind K) [] := by
  obtain ⟨fd, F⟩ := T.c.def_ 28 (d := d_edit_behind) rfl
  refine cal_of (k := 4) F (g_edit_behind T) (F.bindsN fun _ _ _ _ _ _ us hl => match us, hl with | [_, _, _], _ => rfl) sc_edit_behind (spD_len (by rintro ds d h; exact len_edit_behind h)) fun cdv A outer s H vs Q E hr h => ⟨_, (pss_cons (ps_expr (pe_c (c_need_edit T) hr (by decide) (by rfl) (pa_cons (pv 0) (pa_cons (pv 1) pa_nil))))
      (pss_cons (ps_expr (pe_c (c_need_edit T) hr (by decide) (by rfl) (pa_cons (pv 0) (pa_cons (pv 2) pa_nil))))
      (pss_cons (ps_expr (pe_c (c_need_taken T) hr (by decide) (by rfl) (pa_cons (pv 2) (pa_cons (pe_c (c_left_by T) hr (by decide) (by rfl) (pa_cons (pv 1) pa_nil)) pa_nil))))
      (pss_one (ps_ret (pe_c (c_behind_in T) hr (by decide) (by rfl) (pa_cons (pv 1) (pa_cons (pv 2) pa_nil)))))))), ?_⟩
  obtain ⟨ds, d, ⟨a, g, e1, e2, h1, h2, ht⟩, hvs, q⟩ := h
  obtain ⟨x, y, z, rfl, hx, hy, hz⟩ := dda3 hvs
  refine s_seq (s_drop (ev_call (ea_cons (ev_var rfl hx) (ea_cons (ev_var rfl hy) ea_nil)) (spD.of (R := R_need_edit) (.mk a g e1 h1))) fun H2 s2 => ?_)
  refine s_seq (s_drop (ev_call (ea_cons (ev_var rfl (dd_sm s2 _ _ hx)) (ea_cons (ev_var rfl (dd_sm s2 _ _ hz)) ea_nil)) (spD.of (R := R_need_edit) (.mk a g e2 h2))) fun H3 s3 => ?_)
  have s23 := s2.trans s3
  refine s_seq (s_drop (ev_call (ea_cons (ev_var rfl (dd_sm s23 _ _ hz)) (ea_cons (EvD.is (ev_call (ea_cons (ev_var rfl (dd_sm s23 _ _ hy)) ea_nil) (spD.of (R := R_left_by) (.mk a e1 h1))) (by rw [← ht])) ea_nil)) (spD.of (R := R_need_taken) (.mk a e2 h2))) fun H4 s4 => ?_)
  have s24 := s23.trans s4
  exact s_ret (ev_call (ea_cons (ev_var rfl (dd_sm s24 _ _ hy)) (ea_cons (ev_var rfl (dd_sm s24 _ _ hz)) ea_nil)) (spD.of (R := R_behind_in) (.mk a e1 e2 h1 h2 ht))) fun v H5 s5 dv => q v H5 (s24.trans s5) dv
theorem mx_NotKept (T : Tx K mg) : MakX P w K mg base 1 "NotKept" (He.ga K "NotKept") (sp_NotKept_init K) := by
  obtain ⟨fd, F⟩ := T.c.def_ 3 (d := d_NotKept_init) rfl
  have me := me_NotKept_init T
  refine makx_of (k := 0) (ox_NotKept T) me.at_ (eq_of_beq me.fn) (g_NotKept T) F (F.bindsN fun _ _ _ _ _ _ us hl => match us, hl with | [_, _, _], _ => rfl) sc_NotKept_init (fun vs H Q E ⟨a, pv, wv, e, _⟩ => by rw [e]; rfl) fun cdv A outer s H vs Q E hr h => ⟨_, (pss_cons (ps_ost (pv 0) (pv 1))
      (pss_one (ps_ost (pv 0) (pv 2)))), ?_⟩
  obtain ⟨a, pv, wv, rfl, ha, q⟩ := h
  have ox := ox_NotKept T
  refine s_seq ?_
  refine ⟨pv, rfl, .ref a, rfl, a, _, rfl, ox, (na_NotKept_promise T), .inl ⟨ha, fun dx hdx hne => ?_⟩⟩
  dsimp only
  refine ⟨wv, rfl, .ref a, rfl, a, _, rfl, ox, (na_NotKept_witness T), .inr ⟨dx, [("promise", pv)], upd_same, by rw [upd_ne hne, upd_same], (by show 1 ≤ 900; decide), ?_⟩⟩
  refine q dx _ hdx ?_ upd_same fun b o hb he => ?_
  · rw [upd_ne hne.symm, upd_same]
  · rw [upd_ne (ne_of_none he hdx), upd_ne hb, upd_ne (ne_of_none he hdx)]
    exact he
theorem cx_need_taken (T : Tx K mg) : CalX P w K mg base 3 "need_taken" (spx_need_taken K) := by
  obtain ⟨fd, F⟩ := T.c.def_ 24 (d := d_need_taken) rfl
  refine calx_of (k := 2) F (g_need_taken T) (F.bindsN fun _ _ _ _ _ _ us hl => match us, hl with | [_, _], _ => rfl) sc_need_taken (fun vs H Q E ⟨y, a, ws, n, e, _⟩ => by rw [e]; rfl) fun cdv A outer s H vs Q E hr h => ⟨_, (pss_one (ps_if (pt_cmpR (uNe K hr.units) (pe_c (c_taken_by T) hr (by decide) (by rfl) (pa_cons (pv 0) pa_nil)) (pv 1) (nomark _)) (pss_one (ps_raise rfl (takes_of rfl rfl rfl rfl) (pmk_x (mx_NotKept T) hr (by decide) (by rfl) (pa_cons pe_str (pa_cons (pe_c (c_taken_by T) hr (by decide) (by rfl) (pa_cons (pv 0) pa_nil)) pa_nil))))) pss_nil)), ?_⟩
  obtain ⟨y, a, ws, n, rfl, hw, hy, hne, q⟩ := h
  refine s_ifT (EvT.is (et_test (ev_neI (ev_call (K := K) (ea_cons (ev_var rfl hy) ea_nil) (spD.of (R := R_taken_by) (.mk a ws hw))) (ev_var rfl (.int (n : Nat))))) (?_ : _ = true)) fun H2 s2 => ?_
  · rw [decide_eq_false (show ¬ ((taken ws : Nat) : Int) = ((n : Nat) : Int) by omega)]
    rfl
  · have hy2 := dd_sm s2 _ _ hy
    refine (ea_cons (K := K) ev_str (ea_cons (ev_call (ea_cons (ev_var (i := 0) rfl hy2) ea_nil) (spD.of (R := R_taken_by) (.mk a ws hw))) ea_nil)) H2 (.refl _) _ fun vs H3 s3 dvs => ?_
    obtain ⟨x1, x2, rfl, d1, d2⟩ := dda2 dvs
    rw [dd_str d1, dd_int d2]
    refine ⟨by show 2 ≤ 1000; decide, fun ea hea => ?_⟩
    refine ⟨ea, _, _, rfl, upd_same, fun dx H4 hdx e1 e2 keep => ?_⟩
    have hdx3 : H3 dx = none := by
      by_cases e : dx = ea
      · rw [e]; exact hea
      · rwa [upd_ne e] at hdx
    refine ⟨rfl, dx, _, e1, e2, hdx3, ?_⟩
    refine q dx _ (fun b o hb => ?_) upd_same
    have hb3 := s3 _ _ (s2 _ _ hb)
    have h1 : b ≠ dx := ne_of_none hb3 hdx3
    have h2 : b ≠ ea := ne_of_none hb3 hea
    rw [upd_ne h1, del_ne h2]
    exact keep b o h2 (by rw [upd_ne h2]; exact hb3)
theorem cx_edit_behind (T : Tx K mg) : CalX P w K mg base 5 "edit_behind" (spx_edit_behind K) := by
  obtain ⟨fd, F⟩ := T.c.def_ 28 (d := d_edit_behind) rfl
  refine calx_of (k := 4) F (g_edit_behind T) (F.bindsN fun _ _ _ _ _ _ us hl => match us, hl with | [_, _, _], _ => rfl) sc_edit_behind (fun vs H Q E ⟨x, y, z, a, e1, e2, e, _⟩ => by rw [e]; rfl) fun cdv A outer s H vs Q E hr h => ⟨_, (pss_cons (ps_expr (pe_c (c_need_edit T) hr (by decide) (by rfl) (pa_cons (pv 0) (pa_cons (pv 1) pa_nil))))
      (pss_cons (ps_expr (pe_c (c_need_edit T) hr (by decide) (by rfl) (pa_cons (pv 0) (pa_cons (pv 2) pa_nil))))
      (pss_cons (ps_expr (pe_cx (cx_need_taken T) hr (by decide) (by rfl) (takes_of rfl rfl rfl rfl) (fun _ _ _ _ h => h) (pa_cons (pv 2) (pa_cons (pe_c (c_left_by T) hr (by decide) (by rfl) (pa_cons (pv 1) pa_nil)) pa_nil))))
      (pss_one (ps_ret (pe_c (c_behind_in T) hr (by decide) (by rfl) (pa_cons (pv 1) (pa_cons (pv 2) pa_nil)))))))), ?_⟩
  obtain ⟨x, y, z, a, e1, e2, rfl, g, h1, h2, hx, hy, hz, hne, q⟩ := h
  refine s_seq (s_drop (K := K) (ev_call (ea_cons (ev_var rfl hx) (ea_cons (ev_var rfl hy) ea_nil)) (spD.of (R := R_need_edit) (.mk a g e1 h1))) fun H2 s2 => ?_)
  refine s_seq (s_drop (K := K) (ev_call (ea_cons (ev_var rfl (dd_sm s2 _ _ hx)) (ea_cons (ev_var rfl (dd_sm s2 _ _ hz)) ea_nil)) (spD.of (R := R_need_edit) (.mk a g e2 h2))) fun H3 s3 => ?_)
  have s23 := s2.trans s3
  refine s_seq ?_
  refine ⟨z, rfl, ?_⟩
  refine (ev_call (K := K) (E := E0) (ea_cons (ev_var (i := 1) rfl (dd_sm s23 _ _ hy)) ea_nil) (spD.of (R := R_left_by) (.mk a e1 h1))) H3 (.refl _) _ fun u H4 s4 du => ?_
  rw [dd_int du]
  refine ⟨z, a, e2, lefts e1, rfl, h2, dd_sm (s23.trans s4) _ _ hz, hne, fun d H5 s5 hd => ?_⟩
  exact q d H5 ((s23.trans s4).trans s5) hd
end
end K75


namespace K75
open PySem PySem.Spec L2 T Ed
open PyProof.Rows hiding St
open C8 (Cal Mak Met pe_c pe_mk pe_mt pe_mt0 pe_gc)
/-! ### the law's own pen -/
abbrev sp_L_pen (K : PySem.W.Frag) : Sp := fun vs H Q _ => ∃ (a : Addr) (ns : List Int), vs = [.ref a] ∧ SqL K H a (ns.map V.int) ∧ ns.length ≤ 63 ∧ ∀ (p c : Addr) (H' : Hp), Same H H' → PenAt H' p c 0 → Q (.ref p) H'
abbrev sp_L_draw (K : PySem.W.Frag) : Sp := fun vs H Q _ => ∃ (p c : Addr) (n k : Nat), vs = [.ref p, .int (k : Nat)] ∧ PenAt H p c n ∧ n < 100000 ∧ 1 ≤ k ∧ k ≤ 1000 ∧ ∀ (r : Nat) (H' : Hp), r < k → Px p H H' → PenAt H' p c (n + 1) → Q (.int (r : Nat)) H'
abbrev sp_L_pick (K : PySem.W.Frag) : Sp := fun vs H Q _ => ∃ (p c : Addr) (n : Nat) (v : V) (d : PyData), vs = [.ref p, v] ∧ PenAt H p c n ∧ n < 100000 ∧ Dd K H v d ∧
  ((∃ g : List Nat, d = .str (tx g) ∧ 1 ≤ g.length ∧ g.length ≤ 1000 ∧ ∀ z ∈ g, ∀ H' : Hp, Px p H H' → PenAt H' p c (n + 1) → Q (.str (tx [z])) H') ∨
   (∃ ds : List PyData, d = .list ds ∧ 1 ≤ ds.length ∧ ds.length ≤ 1000 ∧ ∀ e ∈ ds, ∀ (u : V) (H' : Hp), Dd K H' u e → Px p H H' → PenAt H' p c (n + 1) → Q u H'))
section
variable {P : Program} {w : World} {K : PySem.W.Frag} {mg : Str → Option Value} {base : Heap}
theorem penK_len (c : Addr) (a d n f : Nat) : (penK c a d n f).length < sizeLine := by rw [sizeLine_eq]; show 5 < _; omega
theorem c_L_pen (T : Tx K mg) : Cal P w K mg base 1 "_law_pen" (sp_L_pen K) [] := by
  obtain ⟨fd, F⟩ := T.c.def_ 30 (d := d_L_pen) rfl
  refine cal_of (k := 0) F (g_L_pen T) (F.bindsN fun _ _ _ _ _ _ us hl => match us, hl with | [_], _ => rfl) sc_L_pen (fun vs H Q E ⟨a, ns, e, _⟩ => by rw [e]; rfl) fun cdv A outer s H vs Q E hr h => ⟨_, (pss_cons (ps_set (i := 1) sc_L_pen.nd rfl (.inl rfl) pe_int)
      (pss_cons (ps_for PassesOwn.never rfl (uPiList K (pv 0)) (pg_name (i := 2) sc_L_pen.nd rfl (.inl rfl))
        (pss_one (ps_set (i := 1) sc_L_pen.nd rfl (.inl rfl) (pe_op op_modN (pe_callTy (uInt) (by rfl) (z_int T) (by decide +kernel) (pa_cons (pe_op (uAdd K) (pe_op uMul (pv 1) pe_int) (pv 2)) pa_nil)) pe_int))))
      (pss_one (ps_ret (pe_disp (pps_cons pe_str (pe_callTy (uList K) (by rfl) (z_list T) (by decide +kernel) (pa_cons (pv 0) pa_nil)) (pps_cons pe_str pe_int (pps_cons pe_str pe_int (pps_cons pe_str pe_int (pps_cons pe_str (pv 1) pps_nil))))) (by rfl) (by rfl) (fun z => by cases z) (by decide)))))), ?_⟩
  obtain ⟨a, ns, rfl, ha, hn, q⟩ := h
  refine s_seq (s_set (K := K) ev_int fun v H1 s1 dv => ?_)
  rw [dd_int dv]
  refine s_seq ?_
  refine ⟨V.ref a, rfl, a, rfl, ⟨_, sm_l s1 ha⟩, ?_⟩
  refine for_list (K := K) (xs := ns.map V.int) (fun i σ' H' => Same H H' ∧ ∃ (f : Nat) (z : Option V), f < 1000000087 ∧ σ' = [some (.ref a), some (.int (f : Nat)), z]) ⟨s1, 0, none, by omega, rfl⟩ (fun i σ' H' _ ⟨s, _⟩ => sm_l s ha) ?_ ?_
  · rintro i x σ' H2 hi ⟨s2, f, z, hf, rfl⟩
    rw [List.getElem?_map] at hi
    cases e : ns[i]? with
    | none => rw [e] at hi; cases hi
    | some y =>
      rw [e] at hi
      cases hi
      refine s_set (K := K) (ev_opC (f := .int (((f : Int) * 67 + y).fmod 1000000087)) (fun _ => .int _) (ev_intI (ev_add (ev_mul (i := (f : Nat)) (j := 67) (ev_var rfl (.int _)) ev_int (.inr (by decide))) (ev_var rfl (.int _)))) ev_int (by decide)) fun v3 H3 s3 d3 => ?_
      obtain ⟨r, hr1, hr2⟩ := fmod_nat ((f : Int) * 67 + y) (k := 1000000087) (by omega)
      have e3 : v3 = .int (r : Nat) := by
        rw [dd_int d3, ← hr2]
        rfl
      subst e3
      exact ⟨s2.trans s3, r, some (.int y), hr1, rfl⟩
  · rintro σ' H2 ⟨s2, f, z, hf, rfl⟩
    intro p hp
    refine ⟨V.ref a, rfl, a, _, rfl, .inl (sm_l (s2.trans (sm_new hp)) ha), fun l hl => ?_⟩
    refine ⟨_, rfl, ?_⟩
    have hlp : p ≠ l := fun e => by rw [← e, upd_same] at hl; cases hl
    refine ⟨by rw [upd_ne hlp, upd_same], penK l 0 0 0 f, rfl, (by show 5 ≤ 15; decide), ?_⟩
    refine q p l _ ?_ ⟨ns, 0, 0, 0, f, upd_same, ?_, Nat.le_refl _, by omega⟩
    · exact fun b o hb => by
        have hb2 := s2 b o hb
        rw [upd_ne (ne_of_none hb2 hp), upd_ne (fun e => by rw [← e, upd_ne (ne_of_none hb2 hp), hb2] at hl; cases hl), upd_ne (ne_of_none hb2 hp)]
        exact hb2
    · rw [upd_ne hlp.symm, upd_same]
theorem c_L_draw (T : Tx K mg) : Cal P w K mg base 1 "_law_draw" (sp_L_draw K) [] := by
  obtain ⟨fd, F⟩ := T.c.def_ 31 (d := d_L_draw) rfl
  refine cal_of (k := 0) F (g_L_draw T) (F.bindsN fun _ _ _ _ _ _ us hl => match us, hl with | [_, _], _ => rfl) sc_L_draw (fun vs H Q E ⟨p, c, n, k, e, _⟩ => by rw [e]; rfl) fun cdv A outer s H vs Q E hr h => ⟨_, (pss_cons (ps_dput (hu_of hr) (pv 0) pe_str (pe_op (uAdd K) (pe_dget (hu_of hr) (pv 0) pe_str (fun _ _ => rfl)) pe_int) rfl)
      (pss_cons (ps_if (PW.pt (pw_and (pt_cmpR (uEq K hr.units) (pe_dget (hu_of hr) (pv 0) pe_str (fun _ _ => rfl)) pe_int (nomark _)) (pw_and1 (pt_cmpR op_lt (pe_dget (hu_of hr) (pv 0) pe_str (fun _ _ => rfl)) (pe_callB (uLen K) (by rfl) (z_len T) (by decide +kernel) (pa_cons (pe_dget (hu_of hr) (pv 0) pe_str (fun _ _ => rfl)) pa_nil)) (nomark _))))) (pss_cons (ps_set (i := 2) sc_L_draw.nd rfl (.inl rfl) (pe_ix (uIx K) (pe_dget (hu_of hr) (pv 0) pe_str (fun _ _ => rfl)) (pe_dget (hu_of hr) (pv 0) pe_str (fun _ _ => rfl)) (fun _ _ => rfl)))
      (pss_cons (ps_dput (hu_of hr) (pv 0) pe_str (pe_op (uAdd K) (pe_dget (hu_of hr) (pv 0) pe_str (fun _ _ => rfl)) pe_int) rfl)
      (pss_one (ps_if (pt_cmpR op_ge (pv 2) (pe_op op_pow pe_int pe_int) (nomark _)) (pss_one (ps_dput (hu_of hr) (pv 0) pe_str (pe_op op_sub (pv 2) (pe_op op_pow pe_int pe_int)) rfl)) (pss_one (ps_dput (hu_of hr) (pv 0) pe_str (pe_op op_modN (pe_callTy (uInt) (by rfl) (z_int T) (by decide +kernel) (pa_cons (pe_op (uAdd K) (pe_op uMul (pe_dget (hu_of hr) (pv 0) pe_str (fun _ _ => rfl)) pe_int) (pv 2)) pa_nil)) pe_int) rfl)))))) pss_nil)
      (pss_cons (ps_if (pt_cmpR op_gt (pe_dget (hu_of hr) (pv 0) pe_str (fun _ _ => rfl)) pe_int (nomark _)) (pss_cons (ps_set (i := 3) sc_L_draw.nd rfl (.inl rfl) (pe_op op_modN (pe_callTy (uInt) (by rfl) (z_int T) (by decide +kernel) (pa_cons (pe_dget (hu_of hr) (pv 0) pe_str (fun _ _ => rfl)) pa_nil)) (pv 1)))
      (pss_cons (ps_dput (hu_of hr) (pv 0) pe_str (pe_op op_fdivN (pe_dget (hu_of hr) (pv 0) pe_str (fun _ _ => rfl)) (pv 1)) rfl)
      (pss_one (ps_ret (pv 3))))) pss_nil)
      (pss_cons (ps_set (i := 4) sc_L_draw.nd rfl (.inl rfl) (pe_op (uAdd K) (pe_op (uAdd K) (pe_dget (hu_of hr) (pv 0) pe_str (fun _ _ => rfl)) (pe_op uMul (pe_dget (hu_of hr) (pv 0) pe_str (fun _ _ => rfl)) pe_int)) pe_int))
      (pss_one (ps_ret (pe_op op_modN (pe_op op_fdivN (pe_callTy (uInt) (by rfl) (z_int T) (by decide +kernel) (pa_cons (pe_op op_modN (pe_op op_pow (pv 4) pe_int) pe_int) pa_nil)) pe_int) (pv 1)))))))), ?_⟩
  obtain ⟨p, c, n, k, rfl, ⟨ns, a, d, m, f, e1, e2, hm, hf⟩, hn, hk, hk2, q⟩ := h
  have hcp : c ≠ p := fun e => by rw [e, e1] at e2; cases e2
  -- count
  refine s_seq (s_pput (K := K) rfl e1 (penK_len ..) (EvD.is (ev_add (ev_pget (v := .int (m : Nat)) (d := .int (m : Nat)) rfl e1 pk_count (.int _)) ev_int) (by rw [show ((m : Nat) : Int) + 1 = ((m + 1 : Nat) : Int) by omega])) fun v H1 s1 dv => ?_)
  rw [dd_int dv, pp_count]
  have g1 : upd H1 p (.dK (penK c a d (m + 1) f)) p = some (.dK (penK c a d (m + 1) f)) := upd_same
  have g2 : upd H1 p (.dK (penK c a d (m + 1) f)) c = some (.lst (ns.map V.int)) := by rw [upd_ne hcp]; exact s1 _ _ e2
  have g3 : Px p H (upd H1 p (.dK (penK c a d (m + 1) f))) := (Px.of s1).trans .put
  generalize upd H1 p (.dK (penK c a d (m + 1) f)) = H2 at g1 g2 g3
  dsimp only
  refine s_mid (fun σ' H' => ∃ (a d f : Nat) (z : Option V), f < 2147483648 ∧ σ' = [some (.ref p), some (.int (k : Nat)), z, none, none] ∧ H' p = some (.dK (penK c a d (m + 1) f)) ∧ H' c = some (.lst (ns.map V.int)) ∧ Px p H H') ?_ fun N hN => ?_
  · rintro σ' H3 ⟨a, d, f, z, hf, rfl, e1, e2, px⟩
    refine s_mid (fun σ' H' => ∃ (z : Option V), σ' = [some (.ref p), some (.int (k : Nat)), z, none, none] ∧ H' p = some (.dK (penK c a d (m + 1) f)) ∧ H' c = some (.lst (ns.map V.int)) ∧ Px p H H') ?_ fun N hN => ?_
    · rintro σ' H4 ⟨z, rfl, e1, e2, px⟩
      refine s_seq (s_set (K := K) (ev_add (ev_add (ev_pget (v := .int (f : Nat)) rfl e1 pk_fold (.int _)) (ev_mul (ev_pget (v := .int ((m + 1 : Nat) : Int)) rfl e1 pk_count (.int _)) ev_int (.inr (by decide)))) ev_int) fun v5 H5 s5 d5 => ?_)
      have e5 := dd_int d5
      subst e5
      refine s_ret (K := K) (ev_opC (f := .int (((((f : Nat) + ((m + 1 : Nat) : Int) * 8311 + 43) ^ (13 : Int).toNat).fmod 2305843009213693951).fdiv 256 |>.fmod (k : Nat))) (fun _ => .int _) (ev_opC (fun _ => .int _) (ev_intI (ev_opC (fun _ => .int _) (ev_opC (fun _ => .int _) (ev_var rfl (.int _)) ev_int ⟨by decide, by decide, by omega⟩) ev_int (by decide))) ev_int ⟨by decide, by decide⟩) (ev_var rfl (.int _)) (by omega)) fun v6 H6 s6 d6 => ?_
      obtain ⟨r, hr1, hr2⟩ := fmod_nat (((((f : Nat) + ((m + 1 : Nat) : Int) * 8311 + 43) ^ (13 : Int).toNat).fmod 2305843009213693951).fdiv 256) (k := k) hk
      rw [dd_int d6, hr2]
      exact q r H6 hr1 (px.trans (.of (s5.trans s6))) (PenAt.same ⟨ns, a, d, m + 1, f, e1, e2, by omega, hf⟩ (s5.trans s6))
    · refine s_if (et_test (ev_opI (K := K) (fun _ => .bl _) (ev_pget (v := .int (d : Nat)) rfl e1 pk_digits (.int _)) ev_int)) (fun hb H4 s4 => ?_) fun _ H4 s4 => hN _ _ ⟨z, rfl, s4 _ _ e1, s4 _ _ e2, px.trans (.of s4)⟩
      have hd := of_decide_eq_true hb
      refine s_seq (s_set (K := K) (ev_opC (f := .int (((d : Nat) : Int).fmod (k : Nat))) (fun _ => .int _) (ev_intI (ev_pget (v := .int (d : Nat)) rfl (s4 _ _ e1) pk_digits (.int _))) (ev_var rfl (.int _)) (by omega)) fun v5 H5 s5 d5 => ?_)
      obtain ⟨r, hr1, hr2⟩ := fmod_nat ((d : Nat) : Int) (k := k) hk
      rw [dd_int d5, hr2]
      have e1' := s5 _ _ (s4 _ _ e1)
      have e2' := s5 _ _ (s4 _ _ e2)
      refine s_seq (s_pput (K := K) rfl e1' (penK_len ..) (ev_opC (f := .int (((d : Nat) : Int).fdiv (k : Nat))) (fun _ => .int _) (ev_pget (v := .int (d : Nat)) rfl e1' pk_digits (.int _)) (ev_var rfl (.int _)) ⟨by omega, by omega⟩) fun v6 H6 s6 d6 => ?_)
      have e6 : v6 = .int ((d / k : Nat) : Int) := by
        rw [dd_int d6, Int.fdiv_eq_ediv_of_nonneg _ (by omega)]
        rfl
      rw [e6, pp_digits]
      refine s_ret (K := K) (ev_var rfl (.int _)) fun v7 H7 s7 d7 => ?_
      rw [dd_int d7]
      refine q r H7 hr1 ((px.trans (.of ((s4.trans s5).trans s6))).trans (Px.put.trans (.of s7))) (PenAt.same ⟨ns, a, d / k, m + 1, f, upd_same, by rw [upd_ne hcp]; exact s6 _ _ e2', by omega, hf⟩ s7)
  · refine s_if (et_and (b := decide (a < ns.length)) (et_test (ev_eqI (K := K) (ev_pget (v := .int (d : Nat)) rfl g1 pk_digits (.int _)) ev_int)) (fun _ => EvT.is (et_test (ev_opI (K := K) (fun _ => .bl _) (ev_pget (v := .int (a : Nat)) rfl g1 pk_at (.int _)) (ev_lenL (ds := ns.map .int) (ev_pget (v := .ref c) rfl g1 pk_cells (.lst g2 dda_of_ints))))) (by rw [List.length_map]; exact decide_eq_decide.mpr (by omega)))) (fun hb H4 s4 => ?_) fun _ H4 s4 => hN _ _ ⟨a, d, f, none, hf, rfl, s4 _ _ g1, s4 _ _ g2, g3.trans (.of s4)⟩
    have ha : a < ns.length := of_decide_eq_true (Bool.and_eq_true_iff.mp hb).2
    have g1' := s4 _ _ g1
    have g2' := s4 _ _ g2
    refine s_seq (s_set (K := K) (ev_ixL (ds := ns.map .int) (d := .int ns[a]) (i := (a : Nat)) (ev_pget (v := .ref c) rfl g1' pk_cells (.lst g2' dda_of_ints)) (ev_pget (v := .int (a : Nat)) rfl g1' pk_at (.int _)) (atI_nat (by rw [List.getElem?_map, List.getElem?_eq_getElem ha]; rfl))) fun v5 H5 s5 d5 => ?_)
    rw [dd_int d5]
    have h1' := s5 _ _ g1'
    have h2' := s5 _ _ g2'
    refine s_seq (s_pput (K := K) rfl h1' (penK_len ..) (EvD.is (ev_add (ev_pget (v := .int (a : Nat)) (d := .int (a : Nat)) rfl h1' pk_at (.int _)) ev_int) (by rw [show ((a : Nat) : Int) + 1 = ((a + 1 : Nat) : Int) by omega])) fun v6 H6 s6 d6 => ?_)
    rw [dd_int d6, pp_at]
    have k1 : upd H6 p (.dK (penK c (a + 1) d (m + 1) f)) p = some (.dK (penK c (a + 1) d (m + 1) f)) := upd_same
    have k2 : upd H6 p (.dK (penK c (a + 1) d (m + 1) f)) c = some (.lst (ns.map V.int)) := by rw [upd_ne hcp]; exact s6 _ _ h2'
    have k3 : Px p H (upd H6 p (.dK (penK c (a + 1) d (m + 1) f))) := (g3.trans (.of ((s4.trans s5).trans s6))).trans .put
    generalize upd H6 p (.dK (penK c (a + 1) d (m + 1) f)) = H7 at k1 k2 k3
    refine s_if (et_test (ev_opI (K := K) (fun _ => .bl _) (ev_var rfl (.int _)) (ev_opC (fun _ => .int _) ev_int ev_int ⟨by decide, by decide, by decide⟩))) (fun hb H8 s8 => ?_) fun hb H8 s8 => ?_
    · have hge := of_decide_eq_true hb
      refine s_pput (K := K) rfl (s8 _ _ k1) (penK_len ..) (ev_opI (f := .int (ns[a] - 10 ^ (18 : Int).toNat)) (fun _ => .int _) (ev_var rfl (.int _)) (ev_opC (fun _ => .int _) ev_int ev_int ⟨by decide, by decide, by decide⟩)) fun v9 H9 s9 d9 => ?_
      have e9 : v9 = .int (((ns[a] - 10 ^ (18 : Int).toNat).toNat : Nat) : Int) := by
        rw [dd_int d9]
        congr 1
        omega
      rw [e9, pp_digits]
      exact hN _ _ ⟨a + 1, _, f, _, hf, rfl, upd_same, by rw [upd_ne hcp]; exact s9 _ _ (s8 _ _ k2), (k3.trans (.of (s8.trans s9))).trans .put⟩
    · refine s_pput (K := K) rfl (s8 _ _ k1) (penK_len ..) (ev_opC (f := .int (((f : Nat) * 65539 + ns[a]).fmod 2147483549)) (fun _ => .int _) (ev_intI (ev_add (ev_mul (i := (f : Nat)) (j := 65539) (ev_pget (v := .int (f : Nat)) rfl (s8 _ _ k1) pk_fold (.int _)) ev_int (.inr (by decide))) (ev_var rfl (.int _)))) ev_int (by decide)) fun v9 H9 s9 d9 => ?_
      obtain ⟨r, hr1, hr2⟩ := fmod_nat ((f : Nat) * 65539 + ns[a]) (k := 2147483549) (by omega)
      have e9 : v9 = .int (r : Nat) := by
        rw [dd_int d9, ← hr2]
        rfl
      rw [e9, pp_fold]
      exact hN _ _ ⟨a + 1, d, r, _, by omega, rfl, upd_same, by rw [upd_ne hcp]; exact s9 _ _ (s8 _ _ k2), (k3.trans (.of (s8.trans s9))).trans .put⟩
end
end K75


namespace K75
open PySem PySem.Spec L2 T Ed
open PyProof.Rows hiding St
open C8 (Cal Mak Met pe_c pe_mk pe_mt pe_mt0 pe_gc)
section
variable {P : Program} {w : World} {K : PySem.W.Frag} {mg : Str → Option Value} {base : Heap}
theorem c_L_pick (T : Tx K mg) : Cal P w K mg base 2 "_law_pick" (sp_L_pick K) [] := by
  obtain ⟨fd, F⟩ := T.c.def_ 32 (d := d_L_pick) rfl
  refine cal_of (k := 1) F (g_L_pick T) (F.bindsN fun _ _ _ _ _ _ us hl => match us, hl with | [_, _], _ => rfl) sc_L_pick (fun vs H Q E ⟨p, c, n, v, d, e, _⟩ => by rw [e]; rfl) fun cdv A outer s H vs Q E hr h => ⟨_, (pss_one (ps_ret (pe_ix (uIx K) (pv 1) (pe_c (c_L_draw T) hr (by decide) (by rfl) (pa_cons (pv 0) (pa_cons (pe_callB (uLen K) (by rfl) (z_len T) (by decide +kernel) (pa_cons (pv 1) pa_nil)) pa_nil))) (fun _ _ => rfl)))), ?_⟩
  obtain ⟨p, c, n, v, d, rfl, hp, hn, hd, q⟩ := h
  refine ⟨v, rfl, ?_⟩
  refine ⟨V.ref p, rfl, ?_⟩
  rcases q with ⟨g, rfl, h1, h2, q⟩ | ⟨ds, rfl, h1, h2, q⟩
  · refine (ev_lenS (K := K) (ev_var (σ := [some (.ref p), some v]) (i := 1) rfl hd) (by rw [sizeLine_eq]; omega)) H (.refl _) _ fun u H1 s1 du => ?_
    rw [dd_int du]
    refine ⟨p, c, n, g.length, rfl, hp.same s1, hn, h1, h2, fun r H2 hr px pa => ?_⟩
    refine .inr (.inr ⟨tx g, r, g[r], dd_str hd, rfl, by rw [tx_len, sizeLine_eq]; omega, by rw [tx_cps]; exact atI_nat (List.getElem?_eq_getElem hr), ?_⟩)
    exact q _ (List.getElem_mem hr) H2 ((Px.of s1).trans px) pa
  · refine (ev_lenL (K := K) (ev_var (σ := [some (.ref p), some v]) (i := 1) rfl hd)) H (.refl _) _ fun u H1 s1 du => ?_
    rw [dd_int du]
    refine ⟨p, c, n, ds.length, rfl, hp.same s1, hn, h1, h2, fun r H2 hr px pa => ?_⟩
    have px2 := (Px.of s1).trans px
    obtain ⟨a, xs, rfl, ha, hx⟩ := dd_list (dd_px hp.isK px2 _ _ hd)
    obtain ⟨u, hu1, hu2⟩ := dda_get hx (List.getElem?_eq_getElem hr)
    refine .inl ⟨a, xs, r, u, rfl, rfl, .of ha, ?_, q _ (List.getElem_mem hr) u H2 hu2 px2 pa⟩
    exact atI_nat hu1
end
/-! what the readings of draws give -/
section
variable {K : PySem.W.Frag} {p c : Addr} {σ : L2.St} {H : Hp} {te : TE} {i j : Nat} {E : XK}
theorem evp_draw {k : Nat} (hi : σ[i]? = some (some (.ref p))) (he : ∀ H1, Px p H H1 → IsK H1 p → EvD K te σ H1 (.int (k : Nat))) (h1 : 1 ≤ k) (h2 : k ≤ 1000) : EvP K p c 1 (tCall (sp_L_draw K) [] E (tCons (tVar i) (tCons te tNil))) σ H fun d => ∃ r : Nat, r < k ∧ d = .int (r : Nat) := fun H1 n px pa hn Q q => by
  refine ⟨V.ref p, hi, he H1 px pa.isK H1 (.refl _) _ fun v H2 s2 dv => ?_⟩
  rw [dd_int dv]
  exact ⟨p, c, n, k, rfl, pa.same s2, by omega, h1, h2, fun r H3 hr px3 pa3 => q _ H3 _ ((Px.of s2).trans px3) pa3 ⟨r, hr, rfl⟩ (.int _)⟩
theorem evp_pickS {v : V} {g : List Nat} (hi : σ[i]? = some (some (.ref p))) (hj : σ[j]? = some (some v)) (hv : Ddp K p H v (.str (tx g))) (h1 : 1 ≤ g.length) (h2 : g.length ≤ 1000) : EvP K p c 1 (tCall (sp_L_pick K) [] E (tCons (tVar i) (tCons (tVar j) tNil))) σ H fun d => ∃ z, z ∈ g ∧ d = .str (tx [z]) := fun H1 n px pa hn Q q => by
  refine ⟨V.ref p, hi, v, hj, ?_⟩
  exact ⟨p, c, n, v, _, rfl, pa, by omega, hv H1 px, .inl ⟨g, rfl, h1, h2, fun z hz H2 px2 pa2 => q _ H2 _ px2 pa2 ⟨z, hz, rfl⟩ (.str _)⟩⟩
theorem evp_pickL {ds : List PyData} (hi : σ[i]? = some (some (.ref p))) (hv : ∀ H1, Px p H H1 → IsK H1 p → EvD K te σ H1 (.list ds)) (h1 : 1 ≤ ds.length) (h2 : ds.length ≤ 1000) : EvP K p c 1 (tCall (sp_L_pick K) [] E (tCons (tVar i) (tCons te tNil))) σ H fun d => d ∈ ds := fun H1 n px pa hn Q q => by
  refine ⟨V.ref p, hi, hv H1 px pa.isK H1 (.refl _) _ fun v H2 s2 dv => ?_⟩
  exact ⟨p, c, n, v, _, rfl, pa.same s2, by omega, dv, .inr ⟨ds, rfl, h1, h2, fun e he u H3 du px3 pa3 => q _ H3 e ((Px.of s2).trans px3) pa3 he du⟩⟩
theorem flat_ones : ∀ t : List Nat, (t.map fun c => [c]).flatten = t
  | [] => rfl
  | a :: r => congrArg (a :: ·) (flat_ones r)
theorem join_ones : ∀ t : List Nat, Txt.join (tx []) (t.map fun c => tx [c]) = tx t := by
  intro t
  have h := join_tx (t.map fun c => [c])
  rw [List.map_map] at h
  rw [flat_ones] at h
  exact h
end
abbrev sp_L_line (K : PySem.W.Frag) : Sp := fun vs H Q _ => ∃ (p c : Addr) (n : Nat) (v : V) (g : List Nat) (M : Nat), vs = [.ref p, v, .int (M : Nat)] ∧ PenAt H p c n ∧ n + 40 ≤ 100000 ∧ Dd K H v (.str (tx g)) ∧ 1 ≤ g.length ∧ g.length ≤ 1000 ∧ M ≤ 30 ∧
  ∀ (t : List Nat) (H' : Hp), t.length ≤ M → (∀ z ∈ t, z ∈ g) → Px p H H' → PenAt H' p c (n + 40) → Q (.str (tx t)) H'
section
variable {P : Program} {w : World} {K : PySem.W.Frag} {mg : Str → Option Value} {base : Heap}
theorem c_L_line (T : Tx K mg) : Cal P w K mg base 3 "_law_line" (sp_L_line K) [] := by
  obtain ⟨fd, F⟩ := T.c.def_ 39 (d := d_L_line) rfl
  refine cal_of (k := 2) F (g_L_line T) (F.bindsN fun _ _ _ _ _ _ us hl => match us, hl with | [_, _, _], _ => rfl) sc_L_line (fun vs H Q E ⟨p, c, n, v, g, M, e, _⟩ => by rw [e]; rfl) fun cdv A outer s H vs Q E hr h => ⟨_, (pss_one (ps_ret (uJoin K pe_str (pe_lc (own := [("lap", 3)]) (by rfl) sc_L_line.nd (pi_range1 (by rfl) (z_range T) (pa_cons (pe_c (c_L_draw T) hr (by decide) (by rfl) (pa_cons (pv 0) (pa_cons (pe_op (uAdd K) (pv 2) pe_int) pa_nil))) pa_nil)) (blkOk_by (N := ["pen", "signs", "most", "lap"]) (sc := defScope s_L_line) (by decide +kernel)) (fun _ _ _ _ _ => (pg_name (i := 3) sc_L_line.nd rfl (Or.inl rfl))) (fun _ _ _ _ _ => pts_nil) (fun _ _ _ _ _ => (pe_c (c_L_pick T) hr (by decide) (by rfl) (pa_cons (pv 0) (pa_cons (pv 1) pa_nil)))))))), ?_⟩
  obtain ⟨p, c, n, v, g, M, rfl, hp, hn, hd, h1, h2, hM, q⟩ := h
  have dp := Ddp.of hp.isK hd
  refine s_retP (K := K) (c := c) (m := 40) hp hn (EvP.le (evp_joinLc (M := M) (G := (· ∈ g)) (B := (· ≤ M)) (x0 := "") (by decide +kernel) (EvP.imp (evp_draw (k := M + 1) rfl (fun H1 px k => EvD.is (ev_add (ev_var rfl (.int (M : Nat))) ev_int) (by rw [show ((M : Nat) : Int) + 1 = ((M + 1 : Nat) : Int) by omega])) (by omega) (by omega)) fun d ⟨r, h, e⟩ => ⟨r, Nat.le_of_lt_succ h, e⟩) (fun _ h => h) (by omega)
    (fun x H' px => evp_pickS rfl rfl (dp.px px) h1 h2) (fun x => rfl) join_ones) (by omega)) fun u H' d px pa ⟨t, h3, h4, e⟩ du => ?_
  subst e
  rw [dd_str du]
  exact q t H' h3 h4 px pa
end
end K75


namespace K75
open PySem PySem.Spec L2 T Ed
open PyProof.Rows hiding St
open C8 (Cal Mak Met pe_c pe_mk pe_mt pe_mt0 pe_gc)
/-! ### an edit drawn -/
def smW (g : List Nat) : Wd → Prop
  | .k n => 1 ≤ n ∧ n ≤ 3
  | .d n => 1 ≤ n ∧ n ≤ 3
  | .p l => (1 ≤ l.length ∧ l.length ≤ 2) ∧ ∀ c ∈ l, c ∈ g
theorem smW_ok {g : List Nat} {w : Wd} (h : smW g w) : okW g w ∧ volW w ≤ 3 := by
  cases w with
  | k n => exact ⟨⟨h.1, by have := h.2; omega⟩, h.2⟩
  | d n => exact ⟨⟨h.1, by have := h.2; omega⟩, h.2⟩
  | p l =>
    obtain ⟨⟨h1, h2⟩, h3⟩ := h
    refine ⟨⟨fun e => ?_, h3, by omega⟩, ?_⟩
    · rw [e] at h1
      exact absurd h1 (by decide)
    · show l.length ≤ 3
      omega
theorem smW_vol {g : List Nat} : ∀ {ws : List Wd}, (∀ w ∈ ws, smW g w) → vol ws ≤ 3 * ws.length
  | [], _ => Nat.le_refl _
  | w :: r, h => by
    have h1 := (smW_ok (h w List.mem_cons_self)).2
    have h2 := smW_vol (ws := r) fun x hx => h x (List.mem_cons_of_mem _ hx)
    unfold vol at *
    rw [List.map_cons, List.sum_cons, List.length_cons]
    omega
def wV (w : Wd) : V := .str (tx (wtx w))
theorem dda_wV {K : PySem.W.Frag} {H : Hp} (ws : List Wd) : DdA K H (ws.map wV) (ws.map wD) := by
  have := @dda_of_strs K H (ws.map fun w => tx (wtx w))
  rw [List.map_map, List.map_map] at this
  exact this
theorem taken_snoc (ws : List Wd) (w : Wd) : taken (ws ++ [w]) = taken ws + takW w := by
  unfold taken
  rw [List.map_append, List.sum_append]
  simp
abbrev sp_L_some_edit (K : PySem.W.Frag) : Sp := fun vs H Q _ => ∃ (p c : Addr) (n : Nat) (v : V) (g : List Nat) (M : Nat), vs = [.ref p, v, .int (M : Nat)] ∧ PenAt H p c n ∧ n + 1400 ≤ 100000 ∧ Dd K H v (.str (tx g)) ∧ 1 ≤ g.length ∧ g.length ≤ 1000 ∧ M ≤ 60 ∧
  ∀ (u : V) (ws : List Wd) (H' : Hp), (∀ w ∈ ws, okW g w) → vol ws ≤ 60 → taken ws = M → Px p H H' → PenAt H' p c (n + 1400) → Dd K H' u (eD ws) → Q u H'
section
variable {P : Program} {w : World} {K : PySem.W.Frag} {mg : Str → Option Value} {base : Heap}
theorem c_L_some_edit (T : Tx K mg) : Cal P w K mg base 3 "_law_some_edit" (sp_L_some_edit K) [] := by
  obtain ⟨fd, F⟩ := T.c.def_ 38 (d := d_L_some_edit) rfl
  refine cal_of (k := 2) F (g_L_some_edit T) (F.bindsN fun _ _ _ _ _ _ us hl => match us, hl with | [_, _, _], _ => rfl) sc_L_some_edit (fun vs H Q E ⟨p, c, n, v, g, M, e, _⟩ => by rw [e]; rfl) fun cdv A outer s H vs Q E hr h => ⟨_, (pss_cons (ps_par (i := 3) (j := 4) (by rfl) sc_L_some_edit.nd rfl rfl (by decide) rfl rfl (pa_cons (pe_lst pa_nil) (pa_cons pe_int pa_nil)) (by rfl))
      (pss_cons (ps_for PassesOwn.never rfl (pi_range1 (by rfl) (z_range T) (pa_cons (pe_op (uAdd K) (pe_op uMul pe_int (pv 2)) pe_int) pa_nil)) (pg_name (i := 5) sc_L_some_edit.nd rfl (.inl rfl))
        (pss_cons (ps_if (pt_cmpR (uEq K hr.units) (pe_c (c_L_draw T) hr (by decide) (by rfl) (pa_cons (pv 0) (pa_cons pe_int pa_nil))) pe_int (nomark _)) (pss_one (ps_expr (pe_bm PySem.F.plainAttrs_list PySem.F.slot_list_append PySem.F.type_list_append mt_append (pv 3) (pa_cons (pe_op (uAdd K) pe_str (uJoin K pe_str (pe_lc (own := [("k", 6)]) (by rfl) sc_L_some_edit.nd (pi_range1 (by rfl) (z_range T) (pa_cons (pe_op (uAdd K) pe_int (pe_c (c_L_draw T) hr (by decide) (by rfl) (pa_cons (pv 0) (pa_cons pe_int pa_nil)))) pa_nil)) (blkOk_by (N := ["pen", "signs", "many", "words", "at", "lap", "k", "n"]) (sc := defScope s_L_some_edit) (by decide +kernel)) (fun _ _ _ _ _ => (pg_name (i := 6) sc_L_some_edit.nd rfl (Or.inl rfl))) (fun _ _ _ _ _ => pts_nil) (fun _ _ _ _ _ => (pe_c (c_L_pick T) hr (by decide) (by rfl) (pa_cons (pv 0) (pa_cons (pv 1) pa_nil))))))) pa_nil)))) pss_nil)
      (pss_one (ps_if (pt_cmpR op_lt (pv 4) (pv 2) (nomark _)) (pss_cons (ps_set (i := 7) sc_L_some_edit.nd rfl (.inl rfl) (pe_op (uAdd K) pe_int (pe_c (c_L_draw T) hr (by decide) (by rfl) (pa_cons (pv 0) (pa_cons (pe_callB (uMin rfl) (by rfl) (z_min T) (by decide +kernel) (pa_cons pe_int (pa_cons (pe_op op_sub (pv 2) (pv 4)) pa_nil))) pa_nil)))))
      (pss_cons (ps_expr (pe_bm PySem.F.plainAttrs_list PySem.F.slot_list_append PySem.F.type_list_append mt_append (pv 3) (pa_cons (pe_op (uAdd K) (pe_c (c_L_pick T) hr (by decide) (by rfl) (pa_cons (pv 0) (pa_cons (pe_lst (pa_cons pe_str (pa_cons pe_str (pa_cons pe_str pa_nil)))) pa_nil))) (pe_callTy (uStr) (by rfl) (z_str T) (by decide +kernel) (pa_cons (pv 7) pa_nil))) pa_nil)))
      (pss_one (ps_set (i := 4) sc_L_some_edit.nd rfl (.inl rfl) (pe_op (uAdd K) (pv 4) (pv 7)))))) (pss_one (ps_if (pt_cmpR (uEq K hr.units) (pe_c (c_L_draw T) hr (by decide) (by rfl) (pa_cons (pv 0) (pa_cons pe_int pa_nil))) pe_int (nomark _)) (pss_one ps_break) pss_nil))))))
      (pss_one (ps_ret (pe_ifExp (pt_cmpR op_lt (pe_callB (uLen K) (by rfl) (z_len T) (by decide +kernel) (pa_cons (pv 3) pa_nil)) pe_int (nomark _)) (pe_callTy (uTuple K) (by rfl) (z_tuple T) (by decide +kernel) (pa_cons (pv 3) pa_nil)) (pe_callTy (uTuple K) (by rfl) (z_tuple T) (by decide +kernel) (pa_cons (pe_ifExp (pt_cmpR op_gt (pv 2) pe_int (nomark _)) (pe_lst (pa_cons (pe_op (uAdd K) pe_str (pe_callTy (uStr) (by rfl) (z_str T) (by decide +kernel) (pa_cons (pv 2) pa_nil))) pa_nil)) (pe_lst pa_nil)) pa_nil))))))), ?_⟩
  obtain ⟨p, c, n, v, g, M, rfl, hp, hn, hd, h1, h2, hM, q⟩ := h
  have dv := Ddp.of hp.isK hd
  refine s_seq ?_
  refine ⟨by decide, fun W hW => ?_⟩
  refine ⟨.ref W, .int 0, rfl, ?_⟩
  obtain ⟨hWp, hWc⟩ := hp.ne hW
  have px0 : Px p H (upd H W (.lst [])) := (Px.refl p H).mut hW
  have pa0 : PenAt (upd H W (.lst [])) p c n := hp.upd hWp hWc
  have hw0 : upd H W (.lst []) W = some (.lst (([] : List Wd).map wV)) := upd_same
  generalize upd H W (.lst []) = H0 at px0 pa0 hw0
  dsimp only
  refine s_mid (fun σ' H' => ∃ (ws : List Wd) (at' : Nat) (z1 z2 z3 : Option V), σ' = [some (.ref p), some v, some (.int (M : Nat)), some (.ref W), some (.int (at' : Nat)), z1, z2, z3] ∧ (∀ w ∈ ws, smW g w) ∧ taken ws = M ∧ Px p H H' ∧ PenAt H' p c (n + 1400) ∧ ws.length ≤ 500 ∧ H' W = some (.lst (ws.map wV))) ?_ fun N hN => ?_
  · rintro σ' H2 ⟨ws, at', z1, z2, z3, rfl, hsm, htk, px, pa, hlw, hW2⟩
    have dW : Dd K H2 (.ref W) (.list (ws.map wD)) := .lst hW2 (dda_wV ws)
    refine s_ret (K := K) (d := eD (if ws.length < 13 then ws else if M = 0 then [] else [.k M])) (ev_if (b := decide (ws.length < 13)) (EvT.is (et_test (ev_opI (K := K) (fun _ => .bl _) (ev_lenL (ev_var (i := 3) rfl dW)) ev_int)) (by rw [List.length_map]; exact decide_eq_decide.mpr (by omega))) (fun hb => EvD.is (ev_tupleL (ev_var (i := 3) rfl dW)) ?_) fun hb => EvD.is (ev_tupleL (ds := if M = 0 then [] else [wD (.k M)]) (ev_if (b := decide (0 < M)) (EvT.is (et_test (ev_opI (K := K) (fun _ => .bl _) (ev_var (i := 2) rfl (.int (M : Nat))) ev_int)) (decide_eq_decide.mpr (by omega))) (fun h0 => EvD.is (ev_lst (ea_cons (ev_addS (a := [107]) (b := dg M) (ev_const (by decide +kernel)) (EvD.is (ev_strI (ev_var (i := 2) rfl (.int (M : Nat))) ?_) ?_) ?_) ea_nil) (by show 1 ≤ sizeLine; decide)) ?_) fun h0 => EvD.is (ev_lst ea_nil (by show 0 ≤ sizeLine; decide)) ?_)) ?_) fun u H3 s3 du => ?_
    · have hb' := of_decide_eq_true hb
      rw [if_pos hb']
      rfl
    · show M.log2 < 1920
      have : M.log2 ≤ M := Nat.log2_le_self M
      omega
    · rw [tx_dg]
    · have := (show (dg M).length ≤ 6 from by
        by_cases h0 : M = 0
        · subst h0; decide
        · exact (dgl M ⟨by omega, by omega⟩).1)
      rw [sizeLine_eq]
      show 1 + _ ≤ _
      omega
    · have h0' := of_decide_eq_true h0
      rw [if_neg (show ¬ M = 0 by omega)]
      rfl
    · have h0' := of_decide_eq_false h0
      rw [if_pos (show M = 0 by omega)]
    · have hb' := of_decide_eq_false hb
      rw [if_neg hb']
      by_cases h0 : M = 0
      · rw [if_pos h0, if_pos h0]; rfl
      · rw [if_neg h0, if_neg h0]; rfl
    · by_cases hb : ws.length < 13
      · rw [if_pos hb] at du
        exact q u ws H3 (fun w hw => (smW_ok (hsm w hw)).1) (by have := smW_vol hsm; omega) htk (px.trans (.of s3)) (pa.same s3) du
      · rw [if_neg hb] at du
        refine q u _ H3 ?_ ?_ ?_ (px.trans (.of s3)) (pa.same s3) du
        · intro w hw
          by_cases h0 : M = 0
          · rw [if_pos h0] at hw; cases hw
          · rw [if_neg h0] at hw
            rw [List.mem_singleton.mp hw]
            exact ⟨by omega, by omega⟩
        · by_cases h0 : M = 0
          · rw [if_pos h0]; decide
          · rw [if_neg h0]
            show M + 0 ≤ 60
            omega
        · by_cases h0 : M = 0
          · rw [if_pos h0, h0]; rfl
          · rw [if_neg h0]
            show M + 0 = M
            omega
  · refine (EvD.is (ev_add (ev_mul (K := K) ev_int (ev_var (i := 2) rfl (.int (M : Nat))) (.inl (by decide))) ev_int) (show _ = PyData.int ((2 * M + 3 : Nat) : Int) by rw [show ((2 * M + 3 : Nat) : Int) = 2 * (M : Int) + 3 by omega])) H0 (.refl _) _ fun u H1 s1 du => ?_
    rw [dd_int du]
    refine ⟨_, rfl, by omega, by omega, ?_⟩
    rw [show ((2 * M + 3 : Nat) : Int).toNat = 2 * M + 3 by omega]
    refine for_range (fun i σ' H' => ∃ (ws : List Wd) (at' : Nat) (z1 z2 z3 : Option V), σ' = [some (.ref p), some v, some (.int (M : Nat)), some (.ref W), some (.int (at' : Nat)), z1, z2, z3] ∧ (∀ w ∈ ws, smW g w) ∧ taken ws = at' ∧ (at' ≤ M ∧ (at' < M → i ≤ at')) ∧ Px p H H' ∧ PenAt H' p c (n + 6 * i) ∧ ws.length ≤ 2 * i ∧ H' W = some (.lst (ws.map wV)))
      ⟨[], 0, none, none, none, rfl, fun _ z => (by cases z), rfl, ⟨Nat.zero_le _, fun _ => Nat.zero_le _⟩, px0.trans (.of s1), pa0.same s1, Nat.zero_le _, s1 _ _ hw0⟩ ?_ ?_
    · rintro i σ' H2 hi ⟨ws, at', z1, z2, z3, rfl, hsm, htk, hat, px, pa, hlw, hW2⟩
      show tSeq _ _ _ _ _
      -- a new text, or none
      refine s_mid (fun σ' H' => ∃ (ws : List Wd) (z1 z2 z3 : Option V), σ' = [some (.ref p), some v, some (.int (M : Nat)), some (.ref W), some (.int (at' : Nat)), z1, z2, z3] ∧ (∀ w ∈ ws, smW g w) ∧ taken ws = at' ∧ Px p H H' ∧ PenAt H' p c (n + 6 * i + 4) ∧ ws.length ≤ 2 * i + 1 ∧ H' W = some (.lst (ws.map wV))) ?_ fun N2 hN2 => ?_
      · rintro σ' H2 ⟨ws, z1, z2, z3, rfl, hsm, htk, px, pa, hlw, hW2⟩
        refine s_if (EvT.is (et_test (ev_opI (K := K) (fun _ => .bl _) (ev_var (i := 4) rfl (.int (at' : Nat))) (ev_var (i := 2) rfl (.int (M : Nat))))) (lt_dec at' M)) (fun hb H3 s3 => ?_) fun hb H3 s3 => ?_
        · have hlt := of_decide_eq_true hb
          have pa3 := pa.same s3
          refine s_seq (s_setP (K := K) (c := c) (m := 0 + 1) pa3 (by omega) (evp_add (A := (· = 1)) (B := fun r => r < min 3 (M - at')) (EvP.imp (evp_of fun H1 _ _ => ev_int) fun d e => ⟨1, rfl, e⟩) (evp_draw (k := min 3 (M - at')) rfl (fun H1 _ _ => EvD.is (ev_min2 ev_int (ev_opI (f := .int ((M : Nat) - (at' : Nat) : Int)) (fun _ => .int _) (ev_var (i := 2) rfl (.int (M : Nat))) (ev_var (i := 4) rfl (.int (at' : Nat))))) ?_) (by omega) (by omega))) fun v4 H4 d4 px4 pa4 ⟨a1, r, e1, hr, e4⟩ dv4 => ?_)
          · congr 1
            split <;> omega
          · subst e1 e4
            rw [dd_int dv4]
            have hW4 := px4 W _ hWp (s3 _ _ hW2)
            have hk : 1 + r ≤ 3 ∧ at' + (1 + r) ≤ M := by omega
            have hlog : (1 + r).log2 ≤ 1 + r := Nat.log2_le_self _
            refine s_seq (s_apP (K := K) (c := c) (m := 1 + 0) rfl hW4 hWp pa4 (by omega) (evp_addS (A := fun a => a = [107] ∨ a = [100]) (B := (· = dg (1 + r))) (EvP.imp (evp_pickL (ds := [.str (tx [107]), .str (tx [107]), .str (tx [100])]) rfl (fun H1 _ _ => ev_lst (ea_cons (ev_const (by decide +kernel)) (ea_cons (ev_const (by decide +kernel)) (ea_cons (ev_const (by decide +kernel)) ea_nil))) (by show 3 ≤ sizeLine; decide)) (by decide) (by decide)) fun d h => ?_) (EvP.imp (evp_of fun H1 _ _ => EvD.is (ev_strI (ev_var rfl (.int ((1 + r : Nat) : Int))) (by show (1 + r).log2 < 1920; omega)) (congrArg PyData.str (tx_dg (1 + r)).symm)) fun d e => ⟨_, rfl, e⟩) ?_) ?_ fun v5 H5 d5 px5 pa5 ⟨x1, x2, hx1, hx2, e5⟩ dv5 hW5 => ?_)
            · rcases List.mem_cons.mp h with e | h
              · exact ⟨[107], .inl rfl, e⟩
              rcases List.mem_cons.mp h with e | h
              · exact ⟨[107], .inl rfl, e⟩
              · exact ⟨[100], .inr rfl, List.mem_singleton.mp h⟩
            · intro x1 x2 h1 h2
              have := (dgl (1 + r) ⟨by omega, by omega⟩).1
              have e1 : x1.length = 1 := by rcases h1 with e | e <;> rw [e] <;> rfl
              rw [h2, e1, sizeLine_eq]
              omega
            · rw [List.length_map]; omega
            · subst hx2 e5
              rw [dd_str dv5]
              have hwd : ∃ w5, smW g w5 ∧ takW w5 = 1 + r ∧ wV w5 = V.str (tx (x1 ++ dg (1 + r))) := by
                rcases hx1 with e | e
                · exact ⟨.k (1 + r), ⟨by omega, by omega⟩, rfl, by rw [e]; rfl⟩
                · exact ⟨.d (1 + r), ⟨by omega, by omega⟩, rfl, by rw [e]; rfl⟩
              obtain ⟨w5, hw5, ht5, ev5⟩ := hwd
              refine s_set (K := K) (ev_add (ev_var rfl (.int (at' : Nat))) (ev_var rfl (.int ((1 + r : Nat) : Int)))) fun v6 H6 s6 d6 => ?_
              rw [dd_int d6, show ((at' : Nat) : Int) + ((1 + r : Nat) : Int) = ((at' + (1 + r) : Nat) : Int) by omega]
              refine ⟨ws ++ [w5], at' + (1 + r), z1, z2, some (.int ((1 + r : Nat) : Int)), rfl, ?_, ?_, ⟨hk.2, fun _ => by have := hat.2 hlt; omega⟩, ?_, ?_, ?_, ?_⟩
              · intro w hw
                rcases List.mem_append.mp hw with h | h
                · exact hsm w h
                · rw [List.mem_singleton.mp h]; exact hw5
              · rw [taken_snoc, htk, ht5]
              · exact ((((px.trans (.of s3)).trans px4).trans px5).mut hW).trans (.of s6)
              · exact ((pa5.upd hWp hWc).same s6).le (by omega)
              · rw [List.length_append, List.length_singleton]; omega
              · refine s6 _ _ ?_
                rw [upd_same, List.map_append, ← ev5]
                rfl
        · have hge := of_decide_eq_false hb
          refine s_ifP (K := K) (c := c) (m := 1) (pa.same s3) (by omega) (EvP.imp (evp_draw (k := 2) rfl (fun H1 _ _ => ev_int) (by decide) (by decide)) fun d ⟨r, _, e⟩ => ⟨_, e⟩) (fun H4 px4 pa4 => ?_) fun H4 px4 pa4 => ?_
          · exact hN _ _ ⟨ws, at', z1, z2, z3, rfl, hsm, by have := hat.1; omega, (px.trans (.of s3)).trans px4, pa4.le (by omega), by omega, px4 W _ hWp (s3 _ _ hW2)⟩
          · exact ⟨ws, at', z1, z2, z3, rfl, hsm, htk, ⟨hat.1, fun h => absurd h hge⟩, (px.trans (.of s3)).trans px4, pa4.le (by omega), by omega, px4 W _ hWp (s3 _ _ hW2)⟩
      · refine s_ifP (K := K) (c := c) (m := 1) pa (by omega) (EvP.imp (evp_draw (k := 3) rfl (fun H1 _ _ => ev_int) (by decide) (by decide)) fun d ⟨r, _, e⟩ => ⟨_, e⟩) (fun H4 px4 pa4 => ?_) fun H4 px4 pa4 => hN2 _ _ ⟨ws, some (.int (0 + (i : Nat))), z2, z3, rfl, hsm, htk, px.trans px4, pa4.le (by omega), by omega, px4 W _ hWp hW2⟩
        have hW4 := px4 W _ hWp hW2
        have dv4 : Ddp K p H4 v (.str (tx g)) := dv.px (px.trans px4)
        refine s_apP (K := K) (c := c) (m := 0 + (0 + 1 + 2)) rfl hW4 hWp pa4 (by omega) (evp_addS (A := (· = [112])) (B := fun t => (1 ≤ t.length ∧ t.length ≤ 2) ∧ ∀ z ∈ t, z ∈ g) (EvP.imp (evp_of fun H1 _ _ => ev_const (a := [112]) (by decide +kernel)) fun d e => ⟨_, rfl, e⟩) (EvP.imp (evp_joinLc (M := 2) (G := (· ∈ g)) (B := fun r => 1 ≤ r ∧ r ≤ 2) (x0 := "") (by decide +kernel) (EvP.imp (evp_add (A := (· = 1)) (B := (· < 2)) (EvP.imp (evp_of fun H1 _ _ => ev_int) fun d e => ⟨1, rfl, e⟩) (evp_draw (k := 2) rfl (fun H1 _ _ => ev_int) (by decide) (by decide))) fun d ⟨a1, r, e1, hr, e⟩ => ⟨a1 + r, by omega, e⟩) (fun r h => h.2) (by decide) (fun x H' px' => evp_pickS rfl rfl (dv4.px px') h1 h2) (fun x => rfl) join_ones) fun d ⟨t, ht, hg, e⟩ => ⟨t, ⟨ht, hg⟩, e⟩) ?_) ?_ fun v5 H5 d5 px5 pa5 ⟨x1, t, hx1, ⟨ht, hg⟩, e5⟩ dv5 hW5 => ?_
        · intro a b ha hb
          rw [ha, sizeLine_eq]
          have := hb.1.2
          show 1 + _ ≤ _
          omega
        · rw [List.length_map]; omega
        · subst hx1 e5
          rw [dd_str dv5]
          refine hN2 _ _ ⟨ws ++ [.p t], some (.int (0 + (i : Nat))), z2, z3, rfl, ?_, ?_, ?_, ?_, ?_, ?_⟩
          · intro w hw
            rcases List.mem_append.mp hw with h | h
            · exact hsm w h
            · rw [List.mem_singleton.mp h]; exact ⟨ht, hg⟩
          · rw [taken_snoc, htk]; rfl
          · exact ((px.trans px4).trans px5).mut hW
          · exact (pa5.upd hWp hWc).le (by omega)
          · rw [List.length_append, List.length_singleton]; omega
          · rw [upd_same, List.map_append]; rfl
    · rintro σ' H2 ⟨ws, at', z1, z2, z3, rfl, hsm, htk, hat, px, pa, hlw, hW2⟩
      exact hN _ _ ⟨ws, at', z1, z2, z3, rfl, hsm, by have h1 := hat.1; have h2 := hat.2; omega, px, pa.le (by omega), by omega, hW2⟩
end
end K75


namespace K75
open PySem PySem.Spec L2 T Ed
open PyProof.Rows hiding St
open C8 (Cal Mak Met pe_c pe_mk pe_mt pe_mt0 pe_gc)
/-! ### the law's own items -/
def kiD : It2 → PyData
  | .old _ => .str (tx [111, 108, 100]) | .new _ => .str (tx [110, 101, 119])
def viD : It2 → PyData
  | .old i => .int (i : Nat) | .new c => .str (tx [c])
def itD (x : It2) : PyData := .tuple [kiD x, viD x]
theorem imm_it (x : It2) : imm (itD x) = true := by cases x <;> rfl
theorem iof_kR : ∀ (n i : Nat), iof (List.replicate n .k) i = (List.range n).map fun k => It2.old (i + k)
  | 0, _ => rfl
  | n + 1, i => by
    rw [List.range_succ_eq_map, List.map_cons, List.map_map, List.replicate_succ]
    show It2.old i :: iof (List.replicate n .k) (i + 1) = _
    rw [iof_kR n (i + 1)]
    congr 1
    exact List.map_congr_left fun k _ => congrArg It2.old (by show i + 1 + k = i + (k + 1); omega)
theorem iof_dR : ∀ (n i : Nat), iof (List.replicate n .d) i = []
  | 0, _ => rfl
  | n + 1, i => by
    rw [List.replicate_succ]
    exact iof_dR n (i + 1)
theorem iof_pR : ∀ (l : List Nat) (i : Nat), iof (l.map .p) i = l.map It2.new
  | [], _ => rfl
  | c :: l, i => by
    rw [List.map_cons, List.map_cons]
    show It2.new c :: iof (l.map .p) i = _
    rw [iof_pR l i]
theorem iof_old : ∀ (ops : List Op) (i j : Nat), It2.old j ∈ iof ops i → j < i + tk ops
  | [], i, j, h => by cases h
  | .k :: r, i, j, h => by
    have h' : It2.old j ∈ It2.old i :: iof r (i + 1) := h
    show j < i + (tk r + 1)
    rcases List.mem_cons.mp h' with e | h2
    · cases e; omega
    · have := iof_old r (i + 1) j h2
      omega
  | .d :: r, i, j, h => by
    have := iof_old r (i + 1) j h
    show j < i + (tk r + 1)
    omega
  | .p c :: r, i, j, h => by
    have h' : It2.old j ∈ It2.new c :: iof r i := h
    show j < i + tk r
    rcases List.mem_cons.mp h' with e | h2
    · cases e
    · exact iof_old r i j h2
abbrev sp_L_pairs (K : PySem.W.Frag) : Sp := spN K R_pairs_in
inductive R_L_items : List PyData → PyData → Prop
  | mk (a : List Nat) (ws : List Wd) (h : OkE a ws) : R_L_items [eD ws] (.list ((iof (opsOf ws) 0).map itD))
abbrev sp_L_items (K : PySem.W.Frag) : Sp := spD K R_L_items
theorem len_L_items {ds : List PyData} {d : PyData} (h : R_L_items ds d) : ds.length = 1 := by cases h; rfl
inductive R_L_applied : List PyData → PyData → Prop
  | mk (its : List It2) (t : List Nat) (h : ∀ j, It2.old j ∈ its → j < t.length) (ht : t.length ≤ 1000) (hi : its.length ≤ 2000) : R_L_applied [.list (its.map itD), .str (tx t)] (.str (tx (outI t its)))
abbrev sp_L_applied (K : PySem.W.Frag) : Sp := spD K R_L_applied
theorem len_L_applied {ds : List PyData} {d : PyData} (h : R_L_applied ds d) : ds.length = 2 := by cases h; rfl
theorem dr_len (t : List Nat) (x : It2) : (dr t x).length ≤ 1 := by
  cases x with
  | old j => show ((t.drop j).take 1).length ≤ 1; rw [List.length_take]; omega
  | new c => exact Nat.le_refl _
theorem dr_sum (t : List Nat) : ∀ its : List It2, ((its.map (dr t)).map (·.length)).sum ≤ its.length
  | [] => Nat.le_refl _
  | x :: r => by
    have h1 := dr_len t x
    have h2 := dr_sum t r
    rw [List.map_cons, List.map_cons, List.sum_cons, List.length_cons]
    omega
section
variable {P : Program} {w : World} {K : PySem.W.Frag} {mg : Str → Option Value} {base : Heap}
theorem c_L_pairs (T : Tx K mg) : Cal P w K mg base 1 "_law_pairs" (sp_L_pairs K) [] := by
  obtain ⟨fd, F⟩ := T.c.def_ 34 (d := d_L_pairs) rfl
  refine cal_of (k := 0) F (g_L_pairs T) (F.bindsN fun _ _ _ _ _ _ us hl => match us, hl with | [_], _ => rfl) sc_L_pairs (spN_len (by rintro ds d h; exact len_pairs_in h)) fun cdv A outer s H vs Q E hr h => ⟨_, (pss_one (ps_ret (pe_lc (own := [("word", 1)]) (by rfl) sc_L_pairs.nd (uPiTup K (pv 0)) (blkOk_by (N := ["edit", "word"]) (sc := defScope s_L_pairs) (by decide +kernel)) (fun _ _ _ _ _ => (pg_name (i := 1) sc_L_pairs.nd rfl (Or.inl rfl))) (fun _ _ _ _ _ => pts_nil) (fun _ _ _ _ _ => (pe_tup (pa_cons (pe_ix (uIx K) (pv 1) pe_int (fun _ _ => rfl)) (pa_cons (pe_ifExp (pt_cmpR (uEq K hr.units) (pe_ix (uIx K) (pv 1) pe_int (fun _ _ => rfl)) pe_str (nomark _)) (pe_slice (uSl K) (pv 1) (po_some pe_int) po_none) (pe_callTy (uInt) (by rfl) (z_int T) (by decide +kernel) (pa_cons (pe_slice (uSl K) (pv 1) (po_some pe_int) po_none) pa_nil))) pa_nil))))))), ?_⟩
  obtain ⟨ds, d, ⟨a, ws, hw⟩, hvs, q⟩ := h
  obtain ⟨y, rfl, hy⟩ := dda1 hvs
  refine s_retL (ev_lc1 (l := ws) prD (wk_tup (ev_var rfl hy)) (by have := hw.hi; omega) (fun c hc => by cases c <;> rfl) fun c hc H' z s dz => ?_) q
  have hok := hw.ok c hc
  obtain ⟨hl1, hl2⟩ := wtx_len hok
  have hz : (wtx c).length ≤ sizeLine := sz_of (by omega)
  obtain ⟨c0, l0, e1, e2⟩ := wtx_hd c
  have hat : atI (wtx c) 0 = some c0 := by rw [e1]; exact at0
  have hix : EvD K _ _ H' (.str (tx (kd c))) := (ev_ixS (σ := (wipe [some y, none] [1]).set 1 (some z)) (ev_var (i := 1) rfl dz) ev_int hz hat).is (by rw [e2])
  refine ev_tup (ea_cons hix (ea_cons (ev_if (et_test (ev_eqS (b := [112]) hix (ev_const (by decide +kernel)))) ?_ ?_) ea_nil)) (by show 2 ≤ sizeLine; decide)
  · intro hb
    cases c with
    | p l => exact (ev_slS (ev_var rfl dz) eo_int eo_none hz).is (by rw [show cut (wtx (.p l)) (some 1) none = l from cut_from (112 :: l) 1]; rfl)
    | k n => exact absurd (show ([107] : List Nat) = [112] from of_decide_eq_true hb) (by decide)
    | d n => exact absurd (show ([100] : List Nat) = [112] from of_decide_eq_true hb) (by decide)
  · intro hb
    cases c with
    | p l => exact absurd rfl (of_decide_eq_false hb)
    | k n =>
      refine ev_intS ((ev_slS (ev_var rfl dz) eo_int eo_none hz).is (by rw [show cut (wtx (.k n)) (some 1) none = dg n from cut_from (107 :: dg n) 1])) (int_of_dg hok.2) ?_
      rw [tx_len]
      have := dgl n hok
      omega
    | d n =>
      refine ev_intS ((ev_slS (ev_var rfl dz) eo_int eo_none hz).is (by rw [show cut (wtx (.d n)) (some 1) none = dg n from cut_from (100 :: dg n) 1])) (int_of_dg hok.2) ?_
      rw [tx_len]
      have := dgl n hok
      omega
theorem c_L_items (T : Tx K mg) : Cal P w K mg base 2 "_law_items" (sp_L_items K) [] := by
  obtain ⟨fd, F⟩ := T.c.def_ 35 (d := d_L_items) rfl
  refine cal_of (k := 1) F (g_L_items T) (F.bindsN fun _ _ _ _ _ _ us hl => match us, hl with | [_], _ => rfl) sc_L_items (spD_len (by rintro ds d h; exact len_L_items h)) fun cdv A outer s H vs Q E hr h => ⟨_, (pss_cons (ps_asg (pe_tup (pa_cons (pe_lst pa_nil) (pa_cons pe_int pa_nil))) (uPgTup (n := 2) K (by rfl) (pgs_cons (pg_name (i := 1) sc_L_items.nd rfl (.inl rfl)) (pgs_cons (pg_name (i := 2) sc_L_items.nd rfl (.inr rfl)) pgs_nil))))
      (pss_cons (ps_for PassesOwn.never rfl (uPiList K (pe_c (c_L_pairs T) hr (by decide) (by rfl) (pa_cons (pv 0) pa_nil))) (uPgTup (n := 2) K (by rfl) (pgs_cons (pg_name (i := 3) sc_L_items.nd rfl (.inl rfl)) (pgs_cons (pg_name (i := 4) sc_L_items.nd rfl (.inl rfl)) pgs_nil)))
        (pss_one (ps_if (pt_cmpR (uEq K hr.units) (pv 3) pe_str (nomark _)) (pss_one (ps_set (i := 1) sc_L_items.nd rfl (.inl rfl) (pe_op (uAdd K) (pv 1) (pe_lc (own := [("sign", 5)]) (by rfl) sc_L_items.nd (pi_str (pv 4)) (blkOk_by (N := ["edit", "found", "at", "kind", "value", "sign", "k"]) (sc := defScope s_L_items) (by decide +kernel)) (fun _ _ _ _ _ => (pg_name (i := 5) sc_L_items.nd rfl (Or.inl rfl))) (fun _ _ _ _ _ => pts_nil) (fun _ _ _ _ _ => (pe_tup (pa_cons pe_str (pa_cons (pv 5) pa_nil)))))))) (pss_cons (ps_set (i := 1) sc_L_items.nd rfl (.inl rfl) (pe_op (uAdd K) (pv 1) (pe_ifExp (pt_cmpR (uEq K hr.units) (pv 3) pe_str (nomark _)) (pe_lc (own := [("k", 6)]) (by rfl) sc_L_items.nd (pi_range1 (by rfl) (z_range T) (pa_cons (pv 4) pa_nil)) (blkOk_by (N := ["edit", "found", "at", "kind", "value", "sign", "k"]) (sc := defScope s_L_items) (by decide +kernel)) (fun _ _ _ _ _ => (pg_name (i := 6) sc_L_items.nd rfl (Or.inl rfl))) (fun _ _ _ _ _ => pts_nil) (fun _ _ _ _ _ => (pe_tup (pa_cons pe_str (pa_cons (pe_op (uAdd K) (pv 2) (pv 6)) pa_nil))))) (pe_lst pa_nil))))
      (pss_one (ps_set (i := 2) sc_L_items.nd rfl (.inr rfl) (pe_op (uAdd K) (pv 2) (pv 4))))))))
      (pss_one (ps_ret (pv 1))))), ?_⟩
  obtain ⟨ds, d, ⟨a, ws, hw⟩, hvs, q⟩ := h
  obtain ⟨x, rfl, hx⟩ := dda1 hvs
  have hvo := hw.vo
  refine s_seq (s_asgPair (d1 := .list []) (d2 := .int 0) (ev_tup (ea_cons (ev_lst ea_nil (by show 0 ≤ sizeLine; decide)) (ea_cons ev_int ea_nil)) (by show 2 ≤ sizeLine; decide)) fun x1 x2 H1 s1 e1 e2 => ?_)
  have f2 := dd_int e2
  subst f2
  refine s_seq (s_forL (l := ws) (gi := prD) (el_call (ea_cons (ev_var rfl (dd_sm s1 _ _ hx)) ea_nil) (spN.of (R := R_pairs_in) (.mk a ws hw)))
    (fun p xs i σ' H' => (∃ y1 z1 z2 z3 z4, σ' = [some x, some y1, some (.int (taken (ws.take i) : Nat)), z1, z2, z3, z4] ∧ Dd K H' y1 (.list ((iof (opsOf (ws.take i)) 0).map itD))) ∧ Same H H' ∧ H' p = some (.lst xs) ∧ DdA K H' xs (ws.map prD))
    (fun p xs H2 hpn s2 hp hda => ⟨⟨x1, none, none, none, none, rfl, dd_sm s2 _ _ e1⟩, s1.trans s2, hp, hda⟩)
    (fun p xs i σ' H' h => h.2.2) ?_ ?_)
  · rintro p xs i c σ' H' z hc ⟨⟨y1, z1, z2, z3, z4, rfl, dy⟩, s2, hp, hda⟩ dz
    have hv := vol_take ws i
    have hv2 := vol_take ws (i + 1)
    have htk := taken_vol (ws.take i)
    have hok := hw.ok c (List.mem_of_getElem? hc)
    have etk : taken (ws.take (i + 1)) = taken (ws.take i) + takW c := by rw [take_succ_of hc, taken_snoc]
    have eio : iof (opsOf (ws.take (i + 1))) 0 = iof (opsOf (ws.take i)) 0 ++ iof (opsW c) (taken (ws.take i)) := by
      rw [take_succ_of hc, opsOf_app, iof_app, tk_opsOf, Nat.zero_add]
      congr 2
      show opsW c ++ [] = _
      rw [List.append_nil]
    have hl : (iof (opsOf (ws.take i)) 0).length ≤ 900 := by
      rw [iof_len, left_opsOf]
      have := lefts_vol (ws.take i)
      omega
    have hl2 : volW c ≤ 900 := by
      have := vol_mem (ws := ws) (List.mem_of_getElem? hc)
      omega
    refine g_pair dz fun x1 x2 d1 d2 => ?_
    refine s_if (et_test (ev_eqS (b := [112]) (ev_var rfl d1) (ev_const (by decide +kernel)))) (fun hb H2 s3 => ?_) fun hb H2 s3 => ?_
    · cases c with
      | k n => exact absurd (show ([107] : List Nat) = [112] from of_decide_eq_true hb) (by decide)
      | d n => exact absurd (show ([100] : List Nat) = [112] from of_decide_eq_true hb) (by decide)
      | p l =>
        refine s_set (EvD.is (ev_addL (ev_var rfl (dd_sm s3 _ _ dy)) (EvL.toD (ev_lc1 (l := l) (gi := sgn) (fun c => itD (.new c)) (wk_str (ev_var rfl (dd_sm s3 _ _ d2))) (by have := hok.2.2; omega) (fun c _ => imm_it _) fun c hc H' z s dz => ev_tup (ea_cons (ev_const (by decide +kernel)) (ea_cons (ev_var rfl dz) ea_nil)) (by show 2 ≤ sizeLine; decide))) (sz_of (by rw [List.length_map, List.length_map]; have : l.length ≤ 900 := hl2; omega))) (e := .list ((iof (opsOf (ws.take (i + 1))) 0).map itD)) ?_) fun v H3 s4 dv => ?_
        · rw [eio, List.map_append]
          show _ = PyData.list (_ ++ (iof (l.map .p) _).map itD)
          rw [iof_pR, List.map_map]
          rfl
        · refine ⟨⟨v, some x1, some x2, z3, z4, ?_, dv⟩, s2.trans (s3.trans s4), (s3.trans s4) _ _ hp, dda_sm (s3.trans s4) _ _ hda⟩
          rw [etk]
          rfl
    · have hn : ∃ n : Nat, vl c = .int (n : Nat) ∧ takW c = n ∧ n = volW c := by
        cases c with
        | k n => exact ⟨n, rfl, rfl, rfl⟩
        | d n => exact ⟨n, rfl, rfl, rfl⟩
        | p l => exact absurd rfl (of_decide_eq_false hb)
      obtain ⟨n, hn1, hn2, hn3⟩ := hn
      rw [hn1] at d2
      have d2' := dd_sm s3 _ _ d2
      refine s_seq (s_set (EvD.is (ev_addL (b := (iof (opsW c) (taken (ws.take i))).map itD) (ev_var rfl (dd_sm s3 _ _ dy)) (ev_if (b := decide (kd c = [107])) (et_test (ev_eqS (b := [107]) (ev_var rfl (dd_sm s3 _ _ d1)) (ev_const (by decide +kernel)))) (fun hk => EvD.is (EvL.toD (ev_lc1 (l := List.range n) (gi := fun (j : Nat) => .int (0 + (j : Int))) (fun j => itD (.old (taken (ws.take i) + j))) (wk_rng1 (i := (n : Nat)) (ev_var rfl d2') ⟨by omega, by omega⟩) (by rw [List.length_range]; omega) (fun c _ => imm_it _) fun j hj H' z s dz => ev_tup (ea_cons (ev_const (by decide +kernel)) (ea_cons (EvD.is (ev_add (ev_var rfl (.int (taken (ws.take i) : Nat))) (ev_var rfl dz)) ?_) ea_nil)) (by show 2 ≤ sizeLine; decide))) ?_) fun hk => EvD.is (ev_lst ea_nil (by show 0 ≤ sizeLine; decide)) ?_) (sz_of ?_)) (e := .list ((iof (opsOf (ws.take (i + 1))) 0).map itD)) ?_) fun v H3 s4 dv => ?_)
      · show _ = PyData.int ((taken (ws.take i) + j : Nat) : Int)
        congr 1
        omega
      · cases c with
        | k m =>
          have em : m = n := hn2
          subst em
          show _ = PyData.list ((iof (List.replicate m .k) _).map itD)
          rw [iof_kR, List.map_map]
          rfl
        | d m => exact absurd (show ([100] : List Nat) = [107] from of_decide_eq_true hk) (by decide)
        | p l => exact absurd (show ([112] : List Nat) = [107] from of_decide_eq_true hk) (by decide)
      · cases c with
        | k m => exact absurd rfl (of_decide_eq_false hk)
        | d m =>
          show _ = PyData.list ((iof (List.replicate m .d) _).map itD)
          rw [iof_dR]
          rfl
        | p l => exact absurd rfl (of_decide_eq_false hb)
      · rw [List.length_map, List.length_map, iof_len (opsW c), left_opsW]
        have : lefW c ≤ volW c := by cases c <;> simp [lefW, volW]
        omega
      · rw [eio, List.map_append]
      · refine s_set (ev_add (ev_var (d := .int (taken (ws.take i) : Nat)) rfl (.int _)) (ev_var rfl (dd_sm s4 _ _ d2'))) fun v4 H4 s5 d4 => ?_
        have e4 : v4 = .int ((taken (ws.take (i + 1)) : Nat) : Int) := by
          rw [dd_int d4, etk, hn2]
          congr 1
        rw [e4]
        have s35 := (s3.trans s4).trans s5
        exact ⟨⟨v, some x1, some x2, z3, z4, rfl, dd_sm s5 _ _ dv⟩, s2.trans s35, s35 _ _ hp, dda_sm s35 _ _ hda⟩
  · rintro p xs σ' H' ⟨⟨y1, z1, z2, z3, z4, rfl, dy⟩, s2, hp, hda⟩
    rw [List.take_length] at dy
    exact s_ret (ev_var rfl dy) fun v H2 s3 dv => q v H2 (s2.trans s3) dv
theorem c_L_applied (T : Tx K mg) : Cal P w K mg base 1 "_law_applied" (sp_L_applied K) [] := by
  obtain ⟨fd, F⟩ := T.c.def_ 37 (d := d_L_applied) rfl
  refine cal_of (k := 0) F (g_L_applied T) (F.bindsN fun _ _ _ _ _ _ us hl => match us, hl with | [_, _], _ => rfl) sc_L_applied (spD_len (by rintro ds d h; exact len_L_applied h)) fun cdv A outer s H vs Q E hr h => ⟨_, (pss_one (ps_ret (uJoin K pe_str (pe_lc (own := [("kind", 2), ("value", 3)]) (by rfl) sc_L_applied.nd (uPiList K (pv 0)) (blkOk_by (N := ["items", "text", "kind", "value"]) (sc := defScope s_L_applied) (by decide +kernel)) (fun _ _ _ _ _ => (uPgTup (n := 2) K (by rfl) (pgs_cons (pg_name (i := 2) sc_L_applied.nd rfl (Or.inl rfl)) (pgs_cons (pg_name (i := 3) sc_L_applied.nd rfl (Or.inl rfl)) pgs_nil)))) (fun _ _ _ _ _ => pts_nil) (fun _ _ _ _ _ => (pe_ifExp (pt_cmpR (uEq K hr.units) (pv 2) pe_str (nomark _)) (pe_ix (uIx K) (pv 1) (pv 3) (fun _ _ => rfl)) (pv 3))))))), ?_⟩
  obtain ⟨ds, d, ⟨its, t, ho, ht, hi⟩, hvs, q⟩ := h
  obtain ⟨x, y, rfl, hx, hy⟩ := dda2 hvs
  refine s_ret (ev_join (ls := its.map (dr t)) (ev_const (by decide +kernel)) (EvL.toD (EvL.is (ev_lc2 (l := its) (g1 := kiD) (g2 := viD) (fun it => .str (tx (dr t it))) (wk_list (ev_var rfl hx)) (by omega) (fun _ _ => rfl) fun it hit H' x1 x2 s d1 d2 => ?_) (by rw [List.map_map]; rfl))) (by have := dr_sum t its; omega) (fun ys e => by rw [e]; exact join_tx _)) fun v H2 s2 dv => q v H2 s2 dv
  cases it with
  | old j =>
    have hj := ho j hit
    refine ev_if (b := true) (EvT.is (et_test (ev_eqS (b := [111, 108, 100]) (ev_var rfl d1) (ev_const (by decide +kernel)))) (by decide)) (fun _ => EvD.is (ev_ixS (ev_var rfl (dd_sm s _ _ hy)) (ev_var rfl d2) (sz_of (by omega)) (atI_nat (List.getElem?_eq_getElem hj))) ?_) (fun z => by cases z)
    show _ = PyData.str (tx ((t.drop j).take 1))
    rw [drop_cons hj]
    rfl
  | new c => exact ev_if (b := false) (EvT.is (et_test (ev_eqS (b := [111, 108, 100]) (ev_var rfl d1) (ev_const (by decide +kernel)))) (by decide)) (fun z => by cases z) (fun _ => ev_var rfl d2)
end
end K75


namespace K75
open PySem PySem.Spec L2 T Ed
open PyProof.Rows hiding St
open C8 (Cal Mak Met pe_c pe_mk pe_mt pe_mt0 pe_gc)
/-! ### the law's own plain edit -/
theorem stepI_bnd (many : Nat) (q : PT) (x : It2) : (stepI many q x).ws.length ≤ q.ws.length + 3 ∧ (stepI many q x).k ≤ q.k + 1 ∧ (stepI many q x).f.length ≤ q.f.length + 1 := by
  have l1 : ∀ (c : Prop) [Decidable c] (w : Wd), (if c then ([] : List Wd) else [w]).length ≤ 1 := fun c _ w => by split <;> simp
  have b1 : ∀ v : Nat, (if v < many then 1 else 0) ≤ 1 := fun v => by split <;> omega
  cases x with
  | new c => exact ⟨Nat.le_add_right _ _, Nat.le_add_right _ _, by show (q.f ++ [c]).length ≤ _; simp⟩
  | old v =>
    show (if v > q.at' ∨ q.f ≠ [] then (⟨flushT q v, v + 1, [], 0 + (if v < many then 1 else 0)⟩ : PT) else { q with k := q.k + (if v < many then 1 else 0), at' := v + 1 }).ws.length ≤ _ ∧ (if v > q.at' ∨ q.f ≠ [] then (⟨flushT q v, v + 1, [], 0 + (if v < many then 1 else 0)⟩ : PT) else { q with k := q.k + (if v < many then 1 else 0), at' := v + 1 }).k ≤ _ ∧ (if v > q.at' ∨ q.f ≠ [] then (⟨flushT q v, v + 1, [], 0 + (if v < many then 1 else 0)⟩ : PT) else { q with k := q.k + (if v < many then 1 else 0), at' := v + 1 }).f.length ≤ _
    have hb := b1 v
    split
    · refine ⟨?_, ?_, Nat.zero_le _⟩
      · show (flushT q v).length ≤ _
        unfold flushT
        rw [List.length_append, List.length_append, List.length_append]
        have h1 := l1 (q.k = 0) (.k q.k)
        have h2 := l1 (v - q.at' = 0) (.d (v - q.at'))
        have h3 := l1 (q.f = []) (.p q.f)
        omega
      · show 0 + (if v < many then 1 else 0) ≤ _
        omega
    · exact ⟨Nat.le_add_right _ _, by show q.k + (if v < many then 1 else 0) ≤ _; omega, Nat.le_add_right _ _⟩
theorem foldI_bnd (many : Nat) : ∀ (its : List It2) (q : PT), (its.foldl (stepI many) q).ws.length ≤ q.ws.length + 3 * its.length ∧ (its.foldl (stepI many) q).k ≤ q.k + its.length ∧ (its.foldl (stepI many) q).f.length ≤ q.f.length + its.length
  | [], q => ⟨Nat.le_refl _, Nat.le_refl _, Nat.le_refl _⟩
  | x :: r, q => by
    have h1 := stepI_bnd many q x
    have h2 := foldI_bnd many r (stepI many q x)
    rw [List.foldl_cons, List.length_cons]
    omega
theorem ptI_snoc (many : Nat) (its : List It2) (x : It2) : ptI many (its ++ [x]) = stepI many (ptI many its) x := by
  unfold ptI
  rw [List.foldl_append]
  rfl
inductive R_L_plain_told : List PyData → PyData → Prop
  | mk (its : List It2) (many : Nat) (ho : ∀ j, It2.old j ∈ its → j ≤ 1000) (hm : many ≤ 1000) (hi : its.length ≤ 1000) : R_L_plain_told [.list (its.map itD), .int (many : Nat)] (eD (ptold its many))
abbrev sp_L_plain_told (K : PySem.W.Frag) : Sp := spD K R_L_plain_told
theorem len_L_plain_told {ds : List PyData} {d : PyData} (h : R_L_plain_told ds d) : ds.length = 2 := by cases h; rfl
theorem dg_num {n : Nat} (h : n ≤ 1900) : n.log2 < 1920 := by have := Nat.log2_le_self n; omega
section
variable {K : PySem.W.Frag} {σ : L2.St} {H : Hp} {te : TE} {tt : TT}
theorem s_asg4 {D : Ends} {ta : TA} {i j k l : Nat} {d1 d2 d3 d4 : PyData} (h : EvA K ta σ H [d1, d2, d3, d4]) (q : ∀ x1 x2 x3 x4 H1, Same H H1 → Dd K H1 x1 d1 → Dd K H1 x2 d2 → Dd K H1 x3 d3 → Dd K H1 x4 d4 → D.nx ((((σ.set i (some x1)).set j (some x2)).set k (some x3)).set l (some x4)) H1) :
    tAsg (tTup ta) (gTup K 4 (gCons (gName i) (gCons (gName j) (gCons (gName k) (gCons (gName l) gNil))))) D σ H := h H (.refl _) _ fun vs H1 s dvs => by
  cases dvs with
  | @cons x1 _ _ _ e1 r1 =>
    obtain ⟨x2, x3, x4, rfl, e2, e3, e4⟩ := dda3 r1
    refine ⟨by show 4 ≤ sizeLine; decide, fun t ht => ?_⟩
    have st := sm_new (H := H1) (o := .tup [x1, x2, x3, x4]) ht
    exact ⟨t, _, rfl, .of upd_same, rfl, _, _, rfl, _, _, rfl, _, _, rfl, _, _, rfl, rfl, q _ _ _ _ _ (s.trans st) (dd_sm st _ _ e1) (dd_sm st _ _ e2) (dd_sm st _ _ e3) (dd_sm st _ _ e4)⟩
/-- [sign + str(n)] if test else [] -/
theorem ev_wordN {n : Nat} {b : Bool} {c : Nat} {x0 : Str} (w : Nat → Wd) (hw : ∀ n, wtx (w n) = c :: dg n) (hx : x0 = tx [c]) (ht : EvT tt σ H b) (hb : b = true ↔ ¬ n = 0) (he : ¬ n = 0 → EvD K te σ H (.int (n : Nat))) (hn : n ≤ 1900) :
    EvD K (tIf tt (tLst (tCons (tOp (rAddU K) (tC (.str x0)) (tCB rStrI (tCons te tNil))) tNil)) (tLst tNil)) σ H (.list ((if n = 0 then [] else [w n]).map wD)) := by
  refine ev_if ht (fun h => EvD.is (ev_lst (ea_cons (ev_addS (a := [c]) (b := dg n) (ev_const hx) (EvD.is (ev_strI (he (hb.mp h)) (dg_num hn)) (congrArg PyData.str (tx_dg n).symm)) ?_) ea_nil) (by show 1 ≤ sizeLine; decide)) ?_) fun h => EvD.is (ev_lst ea_nil (by show 0 ≤ sizeLine; decide)) ?_
  · have := dg_len n (by omega)
    rw [sizeLine_eq]
    show 1 + _ ≤ _
    omega
  · rw [if_neg (hb.mp h)]
    show _ = PyData.list [.str (tx (wtx (w n)))]
    rw [hw]
    rfl
  · rw [if_pos (Classical.byContradiction fun e => by rw [hb.mpr e] at h; cases h)]
    rfl
end
section
variable {P : Program} {w : World} {K : PySem.W.Frag} {mg : Str → Option Value} {base : Heap}
theorem gt_dec (i n : Nat) : decide (((n : Nat) : Int) < ((i : Nat) : Int)) = decide (n < i) := decide_eq_decide.mpr (by omega)
theorem c_L_plain_told (T : Tx K mg) : Cal P w K mg base 1 "_law_plain_told" (sp_L_plain_told K) [] := by
  obtain ⟨fd, F⟩ := T.c.def_ 36 (d := d_L_plain_told) rfl
  refine cal_of (k := 0) F (g_L_plain_told T) (F.bindsN fun _ _ _ _ _ _ us hl => match us, hl with | [_, _], _ => rfl) sc_L_plain_told (spD_len (by rintro ds d h; exact len_L_plain_told h)) fun cdv A outer s H vs Q E hr h => ⟨_, (pss_cons (ps_asg (pe_tup (pa_cons (pe_lst pa_nil) (pa_cons pe_int (pa_cons pe_str (pa_cons pe_int pa_nil))))) (uPgTup (n := 4) K (by rfl) (pgs_cons (pg_name (i := 2) sc_L_plain_told.nd rfl (.inl rfl)) (pgs_cons (pg_name (i := 3) sc_L_plain_told.nd rfl (.inl rfl)) (pgs_cons (pg_name (i := 4) sc_L_plain_told.nd rfl (.inl rfl)) (pgs_cons (pg_name (i := 5) sc_L_plain_told.nd rfl (.inl rfl)) pgs_nil))))))
      (pss_cons (ps_for PassesOwn.never rfl (uPiList K (pe_op (uAdd K) (pv 0) (pe_lst (pa_cons (pe_tup (pa_cons pe_str (pa_cons (pv 1) pa_nil))) pa_nil)))) (uPgTup (n := 2) K (by rfl) (pgs_cons (pg_name (i := 6) sc_L_plain_told.nd rfl (.inl rfl)) (pgs_cons (pg_name (i := 7) sc_L_plain_told.nd rfl (.inl rfl)) pgs_nil)))
        (pss_cons (ps_if (pt_cmpR (uEq K hr.units) (pv 6) pe_str (nomark _)) (pss_cons (ps_set (i := 4) sc_L_plain_told.nd rfl (.inl rfl) (pe_op (uAdd K) (pv 4) (pv 7)))
      (pss_one ps_continue)) pss_nil)
      (pss_cons (ps_if (PW.pt (pw_or (pt_cmpR op_gt (pv 7) (pv 3) (nomark _)) (pw_or1 (pt_cmpR (uNe K hr.units) (pv 4) pe_str (nomark _))))) (pss_cons (ps_set (i := 2) sc_L_plain_told.nd rfl (.inl rfl) (pe_op (uAdd K) (pv 2) (pe_ifExp (pt_cmpR op_gt (pv 5) pe_int (nomark _)) (pe_lst (pa_cons (pe_op (uAdd K) pe_str (pe_callTy (uStr) (by rfl) (z_str T) (by decide +kernel) (pa_cons (pv 5) pa_nil))) pa_nil)) (pe_lst pa_nil))))
      (pss_cons (ps_set (i := 2) sc_L_plain_told.nd rfl (.inl rfl) (pe_op (uAdd K) (pe_op (uAdd K) (pv 2) (pe_ifExp (pt_cmpR op_gt (pv 7) (pv 3) (nomark _)) (pe_lst (pa_cons (pe_op (uAdd K) pe_str (pe_callTy (uStr) (by rfl) (z_str T) (by decide +kernel) (pa_cons (pe_op op_sub (pv 7) (pv 3)) pa_nil))) pa_nil)) (pe_lst pa_nil))) (pe_ifExp (pt_cmpR (uNe K hr.units) (pv 4) pe_str (nomark _)) (pe_lst (pa_cons (pe_op (uAdd K) pe_str (pv 4)) pa_nil)) (pe_lst pa_nil))))
      (pss_one (ps_asg (pe_tup (pa_cons pe_str (pa_cons pe_int pa_nil))) (uPgTup (n := 2) K (by rfl) (pgs_cons (pg_name (i := 4) sc_L_plain_told.nd rfl (.inl rfl)) (pgs_cons (pg_name (i := 5) sc_L_plain_told.nd rfl (.inl rfl)) pgs_nil))))))) pss_nil)
      (pss_one (ps_par (i := 5) (j := 3) (by rfl) sc_L_plain_told.nd rfl rfl (by decide) rfl rfl (pa_cons (pe_op (uAdd K) (pv 5) (pe_ifExp (pt_cmpR op_lt (pv 7) (pv 1) (nomark _)) pe_int pe_int)) (pa_cons (pe_op (uAdd K) (pv 7) pe_int) pa_nil)) (by rfl))))))
      (pss_one (ps_ret (pe_callTy (uTuple K) (by rfl) (z_tuple T) (by decide +kernel) (pa_cons (pe_op (uAdd K) (pv 2) (pe_ifExp (pt_cmpR op_gt (pv 5) pe_int (nomark _)) (pe_lst (pa_cons (pe_op (uAdd K) pe_str (pe_callTy (uStr) (by rfl) (z_str T) (by decide +kernel) (pa_cons (pv 5) pa_nil))) pa_nil)) (pe_lst pa_nil))) pa_nil)))))), ?_⟩
  obtain ⟨ds, d, ⟨its, many, ho, hm, hi⟩, hvs, q⟩ := h
  obtain ⟨x, y, rfl, hx, hy⟩ := dda2 hvs
  have ey := dd_int hy
  subst ey
  refine s_seq (s_asg4 (d1 := .list []) (d2 := .int (0 : Nat)) (d3 := .str (tx [])) (d4 := .int (0 : Nat)) (ea_cons (ev_lst ea_nil (by show 0 ≤ sizeLine; decide)) (ea_cons ev_int (ea_cons (ev_const (by decide +kernel)) (ea_cons ev_int ea_nil)))) fun x1 x2 x3 x4 H1 s1 e1 e2 e3 e4 => ?_)
  have f2 := dd_int e2
  have f3 := dd_str e3
  have f4 := dd_int e4
  subst f2 f3 f4
  refine s_seq (s_forL (l := its ++ [It2.old many]) (gi := itD) (EvL.is (el_addL (a := its.map itD) (b := [itD (.old many)]) (ev_var rfl (dd_sm s1 _ _ hx)) (ev_lst (ea_cons (ev_tup (ea_cons (ev_const (by decide +kernel)) (ea_cons (ev_var rfl (.int (many : Nat))) ea_nil)) (by show 2 ≤ sizeLine; decide)) ea_nil) (by show 1 ≤ sizeLine; decide)) (sz_of (by rw [List.length_map]; show its.length + 1 ≤ _; omega))) (by rw [List.map_append]; rfl))
    (fun p xs i σ' H' => (∃ y1 z1 z2, σ' = [some x, some (.int (many : Nat)), some y1, some (.int ((ptI many ((its ++ [It2.old many]).take i)).at' : Nat)), some (.str (tx (ptI many ((its ++ [It2.old many]).take i)).f)), some (.int ((ptI many ((its ++ [It2.old many]).take i)).k : Nat)), z1, z2] ∧ Dd K H' y1 (.list ((ptI many ((its ++ [It2.old many]).take i)).ws.map wD))) ∧ Same H H' ∧ H' p = some (.lst xs) ∧ DdA K H' xs ((its ++ [It2.old many]).map itD))
    (fun p xs H2 hpn s2 hp hda => ⟨⟨x1, none, none, rfl, (dd_sm s2 (.list []) _ e1 : Dd K H2 x1 (.list []))⟩, s1.trans s2, hp, hda⟩)
    (fun p xs i σ' H' h => h.2.2) ?_ ?_)
  · rintro p xs i c σ' H' z hc ⟨⟨y1, z1, z2, rfl, dy⟩, s2, hp, hda⟩ dz
    have ept : ptI many ((its ++ [It2.old many]).take (i + 1)) = stepI many (ptI many ((its ++ [It2.old many]).take i)) c := by rw [take_succ_of hc, ptI_snoc]
    have hil : i < (its ++ [It2.old many]).length := (List.getElem?_eq_some_iff.mp hc).1
    rw [List.length_append, List.length_singleton] at hil
    have hbd := foldI_bnd many ((its ++ [It2.old many]).take i) ⟨[], 0, [], 0⟩
    rw [show ((its ++ [It2.old many]).take i).foldl (stepI many) ⟨[], 0, [], 0⟩ = ptI many ((its ++ [It2.old many]).take i) from rfl, List.length_take, List.length_append, List.length_singleton] at hbd
    have hcv : ∀ v, c = .old v → v ≤ 1000 := fun v e => by
      subst e
      rcases List.mem_append.mp (List.mem_of_getElem? hc) with h | h
      · exact ho v h
      · cases List.mem_singleton.mp h
        exact hm
    rw [ept]
    generalize ptI many ((its ++ [It2.old many]).take i) = q0 at *
    simp only [List.length_nil, Nat.zero_add] at hbd
    obtain ⟨hb1, hb2, hb3⟩ := hbd
    refine g_pair dz fun x1 x2 d1 d2 => ?_
    cases c with
    | new c =>
      refine s_seq (s_ifT (EvT.is (et_test (ev_eqS (b := [110, 101, 119]) (ev_var rfl d1) (ev_const (by decide +kernel)))) (by decide)) fun H2 s3 => ?_)
      refine s_seq (s_set (ev_addS (a := q0.f) (b := [c]) (ev_var rfl (.str _)) (ev_var rfl (dd_sm s3 _ _ d2)) (sz_of (by show _ + 1 ≤ _; omega))) fun v H3 s4 dv => ?_)
      rw [dd_str dv]
      exact ⟨⟨y1, some x1, some x2, rfl, dd_sm (s3.trans s4) _ _ dy⟩, s2.trans (s3.trans s4), (s3.trans s4) _ _ hp, dda_sm (s3.trans s4) _ _ hda⟩
    | old v =>
      have hv := hcv v rfl
      have ev2 := dd_int d2
      subst ev2
      refine s_seq (s_ifF (EvT.is (et_test (ev_eqS (b := [110, 101, 119]) (ev_var rfl d1) (ev_const (by decide +kernel)))) (by decide)) fun H2 s3 => ?_)
      refine s_next ?_
      dsimp only
      refine s_mid (fun σ' H3 => ∃ (q1 : PT) (y : V), σ' = [some x, some (.int (many : Nat)), some y, some (.int (q0.at' : Nat)), some (.str (tx q1.f)), some (.int (q1.k : Nat)), some x1, some (.int (v : Nat))] ∧ Dd K H3 y (.list (q1.ws.map wD)) ∧ Same H' H3 ∧ stepI many q0 (.old v) = ⟨q1.ws, v + 1, q1.f, q1.k + (if v < many then 1 else 0)⟩) ?_ fun N hN => ?_
      · rintro _ H3 ⟨q1, y, rfl, dy3, s23, estep⟩
        have e7 : EvD K (tIf (tTest (tOp (rI0 fun i j => V.bl (decide (i < j))) (tVar 7) (tVar 1))) (tC (V.int 1)) (tC (V.int 0))) [some x, some (.int (many : Nat)), some y, some (.int (q0.at' : Nat)), some (.str (tx q1.f)), some (.int (q1.k : Nat)), some x1, some (.int (v : Nat))] H3 (.int ((if v < many then 1 else 0 : Nat) : Int)) := by
          refine ev_if (EvT.is (et_test (ev_opI (K := K) (fun _ => .bl _) (ev_var (i := 7) rfl (.int (v : Nat))) (ev_var (i := 1) rfl (.int (many : Nat))))) (lt_dec v many)) (fun h => EvD.is ev_int ?_) (fun h => EvD.is ev_int ?_)
          · rw [if_pos (of_decide_eq_true h)]; rfl
          · rw [if_neg (of_decide_eq_false h)]; rfl
        refine s_par (K := K) (EvD.is (ev_add (ev_var (i := 5) rfl (.int (q1.k : Nat))) e7) (?_ : _ = PyData.int ((q1.k + (if v < many then 1 else 0) : Nat) : Int))) (EvD.is (ev_add (ev_var (i := 7) rfl (.int (v : Nat))) ev_int) (?_ : _ = PyData.int ((v + 1 : Nat) : Int))) fun u1 u2 H4 s4 du1 du2 => ?_
        · congr 1
        · congr 1
        · rw [dd_int du1, dd_int du2, estep]
          exact ⟨⟨y, _, _, rfl, dd_sm s4 _ _ dy3⟩, s2.trans (s23.trans s4), (s23.trans s4) _ _ hp, dda_sm (s23.trans s4) _ _ hda⟩
      · have e8 : ∀ (y1 : V) H3, EvT (tTest (tOp (rNeU K) (tVar 4) (tC (.str "")))) [some x, some (.int (many : Nat)), some y1, some (.int (q0.at' : Nat)), some (.str (tx q0.f)), some (.int (q0.k : Nat)), some x1, some (.int (v : Nat))] H3 (!decide (q0.f = [])) := fun y1 H3 => et_test (ev_neS (K := K) (ev_var (i := 4) rfl (.str (tx q0.f))) (ev_const (x := "") (a := []) (by decide +kernel)))
        refine s_if (EvT.is (et_or (et_test (ev_opI (K := K) (fun _ => .bl _) (ev_var (i := 7) rfl (.int (v : Nat))) (ev_var (i := 3) rfl (.int (q0.at' : Nat))))) (fun _ => e8 _ _)) (?_ : _ = decide (v > q0.at' ∨ q0.f ≠ []))) (fun hb H3 s4 => ?_) fun hb H3 s4 => ?_
        · rw [gt_dec, Bool.eq_iff_iff]
          simp
        · have hb' := of_decide_eq_true hb
          have s34 := s3.trans s4
          refine s_seq (s_set (EvD.is (ev_addL (ev_var rfl (dd_sm s34 _ _ dy)) (ev_wordN (n := q0.k) (c := 107) .k (fun _ => rfl) (by decide +kernel) (et_test (ev_opI (K := K) (fun _ => .bl _) (ev_var (i := 5) rfl (.int (q0.k : Nat))) ev_int)) (by rw [decide_eq_true_iff]; omega) (fun _ => ev_var (i := 5) rfl (.int (q0.k : Nat))) (by omega)) (sz_of ?_)) (by rw [← List.map_append])) fun v5 H5 s5 d5 => ?_)
          · rw [List.length_map, List.length_map]
            have : (if q0.k = 0 then ([] : List Wd) else [.k q0.k]).length ≤ 1 := by split <;> simp
            omega
          · refine s_seq (s_set (EvD.is (ev_addL (ev_addL (ev_var rfl d5) (ev_wordN (n := v - q0.at') (c := 100) .d (fun _ => rfl) (by decide +kernel) (et_test (ev_opI (K := K) (fun _ => .bl _) (ev_var (i := 7) rfl (.int (v : Nat))) (ev_var (i := 3) rfl (.int (q0.at' : Nat))))) ?_ ?_ (by omega)) (sz_of ?_)) (ev_if (d := .list ((if q0.f = [] then [] else [Wd.p q0.f]).map wD)) (e8 _ _) (fun h => EvD.is (ev_lst (ea_cons (ev_addS (a := [112]) (b := q0.f) (ev_const (by decide +kernel)) (ev_var rfl (.str _)) (sz_of (by show 1 + _ ≤ _; omega))) ea_nil) (by show 1 ≤ sizeLine; decide)) ?_) fun h => EvD.is (ev_lst ea_nil (by show 0 ≤ sizeLine; decide)) ?_) (sz_of ?_)) (by rw [← List.map_append, ← List.map_append])) fun v6 H6 s6 d6 => ?_)
            · rw [decide_eq_true_iff]; omega
            · exact fun hne => EvD.is (ev_opI (K := K) (f := .int ((v : Int) - (q0.at' : Int))) (fun _ => .int _) (ev_var (i := 7) rfl (.int (v : Nat))) (ev_var (i := 3) rfl (.int (q0.at' : Nat)))) (congrArg PyData.int (by omega))
            · rw [List.length_map, List.length_map, List.length_append]
              have h1 : (if q0.k = 0 then ([] : List Wd) else [.k q0.k]).length ≤ 1 := by split <;> simp
              have h2 : (if v - q0.at' = 0 then ([] : List Wd) else [.d (v - q0.at')]).length ≤ 1 := by split <;> simp
              omega
            · have h' : ¬ q0.f = [] := by simpa using h
              rw [if_neg h']
              rfl
            · have h' : q0.f = [] := by simpa using h
              rw [if_pos h']
              rfl
            · rw [List.length_append, List.length_map, List.length_map, List.length_map, List.length_append]
              have h1 : (if q0.k = 0 then ([] : List Wd) else [.k q0.k]).length ≤ 1 := by split <;> simp
              have h2 : (if v - q0.at' = 0 then ([] : List Wd) else [.d (v - q0.at')]).length ≤ 1 := by split <;> simp
              have h3 : (if q0.f = [] then ([] : List Wd) else [.p q0.f]).length ≤ 1 := by split <;> simp
              omega
            · refine s_asgPair (d1 := .str (tx [])) (d2 := .int (0 : Nat)) (ev_tup (ea_cons (ev_const (x := "") (by decide +kernel)) (ea_cons ev_int ea_nil)) (by show 2 ≤ sizeLine; decide)) fun u1 u2 H7 s7 g1 g2 => ?_
              rw [dd_str g1, dd_int g2]
              exact hN _ _ ⟨⟨flushT q0 v, q0.at', [], 0⟩, v6, rfl, dd_sm s7 _ _ d6, (s34.trans s5).trans (s6.trans s7), if_pos hb'⟩
        · exact hN _ _ ⟨q0, y1, rfl, dd_sm (s3.trans s4) _ _ dy, s3.trans s4, if_neg (of_decide_eq_false hb)⟩
  · rintro p xs σ' H' ⟨⟨y1, z1, z2, rfl, dy⟩, s2, hp, hda⟩
    have hbd := foldI_bnd many (its ++ [It2.old many]) ⟨[], 0, [], 0⟩
    rw [show (its ++ [It2.old many]).foldl (stepI many) ⟨[], 0, [], 0⟩ = ptI many (its ++ [It2.old many]) from rfl, List.length_append, List.length_singleton] at hbd
    simp only [List.length_nil, Nat.zero_add] at hbd
    rw [List.take_length] at dy ⊢
    refine s_ret (ev_tupleL (EvD.is (ev_addL (ev_var rfl dy) (ev_wordN (n := (ptI many (its ++ [It2.old many])).k) (c := 107) .k (fun _ => rfl) (by decide +kernel) (et_test (ev_opI (K := K) (fun _ => .bl _) (ev_var (i := 5) rfl (.int (((ptI many (its ++ [It2.old many])).k : Nat) : Int))) ev_int)) ?_ (fun _ => ev_var (i := 5) rfl (.int (((ptI many (its ++ [It2.old many])).k : Nat) : Int))) (by omega)) (sz_of ?_)) (by rw [← List.map_append]; rfl))) fun v3 H3 s3 d3 => q v3 H3 (s2.trans s3) d3
    · rw [decide_eq_true_iff]; omega
    · rw [List.length_map, List.length_map]
      have : (if (ptI many (its ++ [It2.old many])).k = 0 then ([] : List Wd) else [.k (ptI many (its ++ [It2.old many])).k]).length ≤ 1 := by split <;> simp
      omega
end
end K75


namespace K75
open PySem PySem.Spec L2 T Ed
open PyProof.Rows hiding St
open C8 (Cal Mak Met pe_c pe_mk pe_mt pe_mt0 pe_gc)
/-! ### the law's own _law_met(lambda: ..) -/
section
variable {X : Cx} {c Pt : Addr} {params : Arguments} {body : Expr} {scope : Scope} {lpos p pos : Pos} {t : XK → TE} {k : Nat}
theorem bindsMet {K : PySem.W.Frag} {fd : FuncData} (F : FunD K d_L_met.name d_L_met.qual d_L_met.params d_L_met.body d_L_met.scope [] [] (He.fAd K d_L_met.at_) fd) : Binds K fd ["call"] [] := F.bindsN fun _ _ _ _ _ _ us hl => match us, hl with | [_], _ => rfl
theorem pe_met (T : Tx X.K X.mg) (TB : LamX.TabB X.base X.mg c Pt) (hcode : X.env.code = .ref c) (hr : Room (k + 2) X.A) (hg : Gl X "_law_met") (L : LamX.LamS X.env.scope scope) (hdef : defaultsOf params X.env = ([], []))
    (hbind : ∀ (q : Str) (cl : List (Str × Addr)) (pm cv ctv : Value), bindArgs (PySem.W.kla_fn "<lambda>" q params body scope cl pm cv ctv) ⟨[], []⟩ = pure [])
    (hbody : ∀ (A : Around) (outer : List Env) (s : Shared) (H : Hp) (E : XK) (f c' : Addr), Room k (A.deeper (LamX.lamEnv X scope s.heap.objs.size f c')) → PE (LamX.lamCx X A outer s H E scope f c') body (t E)) :
    PE X (.Call (.Name "_law_met" p) [.Lambda params body scope lpos] [] pos) (LamX.tLam [(Pt, X.env.qual ++ "<lambda>")] (TTmet X.K (He.ga X.K "NotKept") "NotKept") t) := by
  obtain ⟨fd, F⟩ := T.c.def_ 33 (d := d_L_met) rfl
  have hb := bindsMet F
  obtain ⟨oc, od, dV, kV, doc, pm, an, cdv, ct, osl, rfl, lk, hcd, _, _⟩ := F.ex
  exact LamX.pe_lamcall (a := "call") (k := k) hg (g_L_met T) F.kp lk hcd hb sc_L_met rfl (.inl rfl)
    (met_gives (nm := "NotKept") (n := "e") (e := "NotKept") sc_L_met.nd rfl rfl rfl (g_NotKept T) rfl rfl rfl (fun f => rfl) (xf_NotKept T) (na_NotKept_promise T) (na_NotKept_witness T) (xm_NotKept_NotKept T))
    TB hcode List.mem_cons_self (fun p hp _ => by rw [List.mem_singleton.mp hp]) hr L hdef hbind hbody
end
end K75


namespace K75
open PySem PySem.Spec L2 T Ed
open PyProof.Rows hiding St
open C8 (Cal Mak Met pe_c pe_mk pe_mt pe_mt0 pe_gc)
inductive R_L_through : List PyData → PyData → Prop
  | mk (a : List Nat) (e1 e2 : List Wd) (h1 : OkE a e1) (h2 : OkE a e2) (h : taken e2 = lefts e1) : R_L_through [eD e1, eD e2] (.list ((thr (iof (opsOf e1) 0) (iof (opsOf e2) 0)).map itD))
abbrev sp_L_through (K : PySem.W.Frag) : Sp := spD K R_L_through
theorem len_L_through {ds : List PyData} {d : PyData} (h : R_L_through ds d) : ds.length = 2 := by cases h; rfl
section
variable {P : Program} {w : World} {K : PySem.W.Frag} {mg : Str → Option Value} {base : Heap}
theorem c_L_through (T : Tx K mg) : Cal P w K mg base 3 "_law_through" (sp_L_through K) [] := by
  obtain ⟨fd, F⟩ := T.c.def_ 40 (d := d_L_through) rfl
  refine cal_of (k := 2) F (g_L_through T) (F.bindsN fun _ _ _ _ _ _ us hl => match us, hl with | [_, _], _ => rfl) sc_L_through (spD_len (by rintro ds d h; exact len_L_through h)) fun cdv A outer s H vs Q E hr h => ⟨_, (pss_cons (ps_set (i := 2) sc_L_through.nd rfl (.inr rfl) (pe_c (c_L_items T) hr (by decide) (by rfl) (pa_cons (pv 0) pa_nil)))
      (pss_one (ps_ret (pe_lc (own := [("kind", 3), ("value", 4)]) (by rfl) sc_L_through.nd (uPiList K (pe_c (c_L_items T) hr (by decide) (by rfl) (pa_cons (pv 1) pa_nil))) (blkOk_by (N := ["one", "two", "first", "kind", "value"]) (sc := defScope s_L_through) (by decide +kernel)) (fun _ _ _ _ _ => (uPgTup (n := 2) K (by rfl) (pgs_cons (pg_name (i := 3) sc_L_through.nd rfl (Or.inl rfl)) (pgs_cons (pg_name (i := 4) sc_L_through.nd rfl (Or.inl rfl)) pgs_nil)))) (fun _ _ _ _ _ => pts_nil) (fun _ _ _ _ _ => (pe_ifExp (pt_cmpR (uEq K hr.units) (pv 3) pe_str (nomark _)) (pe_ix (uIx K) (pv 2) (pv 4) (fun _ _ => rfl)) (pe_tup (pa_cons (pv 3) (pa_cons (pv 4) pa_nil))))))))), ?_⟩
  obtain ⟨ds, d, ⟨a, e1, e2, h1, h2, ht⟩, hvs, q⟩ := h
  obtain ⟨x, y, rfl, hx, hy⟩ := dda2 hvs
  refine s_seq (s_set (ev_call (ea_cons (ev_var rfl hx) ea_nil) (spD.of (R := R_L_items) (.mk a e1 h1))) fun fv H2 s2 df => ?_)
  refine s_ret (EvL.toD (EvL.is (ev_lc2 (l := iof (opsOf e2) 0) (g1 := kiD) (g2 := viD) (fun it => itD (look (iof (opsOf e1) 0) it)) (wk_list (ev_call (ea_cons (ev_var rfl (dd_sm s2 _ _ hy)) ea_nil) (spD.of (R := R_L_items) (.mk a e2 h2)))) (by
      rw [iof_len, left_opsOf]
      have := lefts_vol e2
      have := h2.vo
      omega) (fun _ _ => imm_it _) fun it hit H' x1 x2 s d1 d2 => ?_) (by unfold thr; rw [List.map_map]; rfl))) fun v H3 s3 dv => q v H3 (s2.trans s3) dv
  cases it with
  | old j =>
    have hj : j < (iof (opsOf e1) 0).length := by
      have := iof_old _ _ _ hit
      rw [tk_opsOf, ht] at this
      rw [iof_len, left_opsOf]
      omega
    refine ev_if (b := true) (EvT.is (et_test (ev_eqS (b := [111, 108, 100]) (ev_var rfl d1) (ev_const (by decide +kernel)))) (by decide)) (fun _ => EvD.is (ev_ixL (ds := (iof (opsOf e1) 0).map itD) (ev_var rfl (dd_sm s _ _ df)) (ev_var rfl d2) (atI_nat (by rw [List.getElem?_map, List.getElem?_eq_getElem hj]; rfl))) ?_) (fun z => by cases z)
    show _ = itD ((iof (opsOf e1) 0).getD j (.new 0))
    rw [List.getD_eq_getElem?_getD, List.getElem?_eq_getElem hj]
    rfl
  | new c => exact ev_if (b := false) (EvT.is (et_test (ev_eqS (b := [111, 108, 100]) (ev_var rfl d1) (ev_const (by decide +kernel)))) (by decide)) (fun z => by cases z) (fun _ => ev_tup (ea_cons (ev_var rfl d1) (ea_cons (ev_var rfl d2) ea_nil)) (by show 2 ≤ sizeLine; decide))
end
end K75


namespace K75
open PySem PySem.Spec L2 T Ed
open PyProof.Rows hiding St
open C8 (Cal Mak Met pe_c pe_mk pe_mt pe_mt0 pe_gc)
theorem told_again (ops : List Op) : (PO (opsOf (PO ops).told)).told = (PO ops).told := by
  rw [← ptold_eq (opsOf (PO ops).told), told_items, tk_opsOf, told_taken, ptold_eq]
theorem plain_again (ops : List Op) : (plainS (PO ops).told).told = (PO ops).told := by
  rw [plainS_ops _ (told_pos ops), told_again]
theorem TS_lo : ∀ c ∈ TS, c < 1114112 := by decide +kernel
theorem CS_lo : ∀ c ∈ CS, c < 1114112 := by decide +kernel
theorem word_lo {g : List Nat} (hg : Good g) {w : Wd} (h : okW g w) : ∀ c ∈ wtx w, c < 1114112 := by
  have dgs : ∀ n, 1 ≤ n ∧ n ≤ 999 → ∀ c ∈ dg n, c < 1114112 := fun n hn c hc => CS_lo c (of_decide_eq_true (List.all_eq_true.mp (dgl n hn).2.2.2 c hc))
  intro c hc
  cases w with
  | k n =>
    rcases List.mem_cons.mp (show c ∈ 107 :: dg n from hc) with e | h2
    · omega
    · exact dgs n h c h2
  | d n =>
    rcases List.mem_cons.mp (show c ∈ 100 :: dg n from hc) with e | h2
    · omega
    · exact dgs n h c h2
  | p l =>
    rcases List.mem_cons.mp (show c ∈ 112 :: l from hc) with e | h2
    · omega
    · exact TS_lo c (hg.inn c (h.2.1 c h2))
theorem strOk_tx {l : List Nat} (h : ∀ c ∈ l, c < 1114112) : PyData.strOk (tx l) = true := by
  unfold PyData.strOk
  rw [← Array.all_toList, tx_cps, List.all_eq_true]
  exact fun c hc => decide_eq_true (h c hc)
theorem can_eD : ∀ {ws : List Wd}, (∀ w ∈ ws, ∀ c ∈ wtx w, c < 1114112) → PyData.canLayAll0 (ws.map wD) = true ∧ PyData.depthAll (ws.map wD) = 0
  | [], _ => ⟨rfl, rfl⟩
  | w :: r, h => by
    obtain ⟨h1, h2⟩ := can_eD (ws := r) fun x hx => h x (List.mem_cons_of_mem _ hx)
    refine ⟨?_, ?_⟩
    · show (PyData.strOk (tx (wtx w)) && PyData.canLayAll0 (r.map wD)) = true
      rw [h1, strOk_tx (h w List.mem_cons_self)]
      rfl
    · show max 0 (PyData.depthAll (r.map wD)) = 0
      rw [h2]
      rfl
theorem shaped_eD {g : List Nat} (hg : Good g) {ws : List Wd} (h : ∀ w ∈ ws, okW g w) : SeqAt.shaped (eD ws) = true := by
  obtain ⟨h1, h2⟩ := can_eD fun w hw => word_lo hg (h w hw)
  show (PyData.canLayAll0 (ws.map wD) && decide (PyData.depthAll (ws.map wD) + 1 ≤ 64)) = true
  rw [h1, h2]
  rfl
theorem eqv_eD {g : List Nat} (hg : Good g) {ws : List Wd} (h : ∀ w ∈ ws, okW g w) : PyData.eqv (eD ws) (eD ws) = true := SeqAt.eqv_refl _ (SeqAt.canLay_of_shaped (shaped_eD hg h))
/-! ### texts and edits one behind another -/
def sD (t : List Nat) : PyData := .str (tx t)
def tV (t : List Nat) : V := .str (tx t)
section
variable {K : PySem.W.Frag} {H : Hp}
theorem dda_tV {l : List (List Nat)} {xs : List V} (h : DdA K H xs (l.map sD)) : xs = l.map tV := by
  have h' : DdA K H xs ((l.map tx).map PyData.str) := by rw [List.map_map]; exact h
  rw [dda_strs h', List.map_map]
  rfl
theorem dda_of_tV (l : List (List Nat)) : DdA K H (l.map tV) (l.map sD) := by
  have := @dda_of_strs K H (l.map tx)
  rw [List.map_map, List.map_map] at this
  exact this
end

theorem iof_new : ∀ (ops : List Op) (i c : Nat), It2.new c ∈ iof ops i → Op.p c ∈ ops
  | [], i, c, h => by cases h
  | .k :: r, i, c, h => by
    have h' : It2.new c ∈ It2.old i :: iof r (i + 1) := h
    rcases List.mem_cons.mp h' with e | h2
    · cases e
    · exact List.mem_cons_of_mem _ (iof_new r (i + 1) c h2)
  | .d :: r, i, c, h => List.mem_cons_of_mem _ (iof_new r (i + 1) c h)
  | .p x :: r, i, c, h => by
    have h' : It2.new c ∈ It2.new x :: iof r i := h
    rcases List.mem_cons.mp h' with e | h2
    · cases e; exact List.mem_cons_self
    · exact List.mem_cons_of_mem _ (iof_new r i c h2)
theorem out_in {g t : List Nat} {ws : List Wd} (hw : ∀ w ∈ ws, okW g w) (ht : ∀ c ∈ t, c ∈ g) : ∀ c ∈ outI t (iof (opsOf ws) 0), c ∈ g := by
  intro c hc
  obtain ⟨x, hx, hd⟩ := List.mem_flatMap.mp hc
  cases x with
  | old j => exact ht c (List.mem_of_mem_drop (List.mem_of_mem_take hd))
  | new d =>
    rw [List.mem_singleton.mp hd]
    obtain ⟨w, hw1, hw2⟩ := List.mem_flatMap.mp (iof_new _ _ _ hx)
    obtain ⟨l, rfl, hl⟩ := opsW_in hw2
    exact (hw _ hw1).2.1 d hl
theorem out_one {t : List Nat} : ∀ {its : List It2}, (∀ j, It2.old j ∈ its → j < t.length) → (outI t its).length = its.length
  | [], _ => rfl
  | x :: r, h => by
    obtain ⟨c, hc⟩ := dr_one (t := t) (x := x) fun j e => h j (e ▸ List.mem_cons_self)
    rw [outI_cons, List.length_append, hc, out_one fun j hj => h j (List.mem_cons_of_mem _ hj), List.length_cons]
    show 0 + 1 + r.length = r.length + 1
    omega
/-- texts, and the edits between them -/
structure Chn (g : List Nat) (ts : List (List Nat)) (es : List (List Wd)) : Prop where
  len : ts.length = es.length + 1
  tx : ∀ (k : Nat) (t : List Nat), ts[k]? = some t → t.length ≤ 60 ∧ ∀ c ∈ t, c ∈ g
  ed : ∀ (k : Nat) (e : List Wd), es[k]? = some e → (∀ w ∈ e, okW g w) ∧ vol e ≤ 60 ∧ ∃ t, ts[k]? = some t ∧ taken e = t.length ∧ ts[k + 1]? = some (outI t (iof (opsOf e) 0))
theorem Chn.one {g t : List Nat} (h : t.length ≤ 60) (hg : ∀ c ∈ t, c ∈ g) : Chn g [t] [] :=
  ⟨rfl, fun k u hk => (by
    cases k with
    | zero => cases hk; exact ⟨h, hg⟩
    | succ k => cases hk), fun k e hk => (by cases hk)⟩
theorem old_lt {e : List Wd} {t : List Nat} (h : taken e = t.length) : ∀ j, It2.old j ∈ iof (opsOf e) 0 → j < t.length := fun j hj => by
  have := iof_old _ _ _ hj
  rw [tk_opsOf] at this
  omega
theorem Chn.snoc {g : List Nat} {ts : List (List Nat)} {es : List (List Wd)} {t : List Nat} {e : List Wd} (h : Chn g (ts ++ [t]) es) (ok : ∀ w ∈ e, okW g w) (hv : vol e ≤ 60) (ht : taken e = t.length) : Chn g (ts ++ [t] ++ [outI t (iof (opsOf e) 0)]) (es ++ [e]) := by
  have hl : ts.length = es.length := by
    have := h.len
    rw [List.length_append, List.length_singleton] at this
    omega
  have htk : (ts ++ [t])[ts.length]? = some t := by simp
  have htt := h.tx ts.length t htk
  refine ⟨by rw [List.length_append, h.len, List.length_append, List.length_singleton, List.length_singleton], fun k u hk => ?_, fun k u hk => ?_⟩
  · by_cases hkl : k < (ts ++ [t]).length
    · rw [List.getElem?_append_left hkl] at hk
      exact h.tx k u hk
    · rw [List.getElem?_append_right (by omega)] at hk
      have hk0 : k - (ts ++ [t]).length = 0 := by
        have := (List.getElem?_eq_some_iff.mp hk).1
        rw [List.length_singleton] at this
        omega
      rw [hk0] at hk
      cases hk
      refine ⟨?_, out_in ok htt.2⟩
      rw [out_one (old_lt ht), iof_len, left_opsOf]
      have := lefts_vol e
      omega
  · by_cases hkl : k < es.length
    · rw [List.getElem?_append_left hkl] at hk
      obtain ⟨h1, h2, w, h3, h4, h5⟩ := h.ed k u hk
      exact ⟨h1, h2, w, by rw [List.getElem?_append_left (by rw [h.len]; omega)]; exact h3, h4, by rw [List.getElem?_append_left (by rw [h.len]; omega)]; exact h5⟩
    · rw [List.getElem?_append_right (by omega)] at hk
      have hk0 : k - es.length = 0 := by
        have := (List.getElem?_eq_some_iff.mp hk).1
        rw [List.length_singleton] at this
        omega
      rw [hk0] at hk
      cases hk
      have hke : k = es.length := by omega
      subst hke
      refine ⟨ok, hv, t, ?_, ht, ?_⟩
      · rw [List.getElem?_append_left (by rw [h.len]; omega), ← hl]
        exact htk
      · rw [List.getElem?_append_right (by rw [h.len]; omega), h.len]
        simp
theorem atI_last {α : Type} (l : List α) (x : α) : atI (l ++ [x]) (-1) = some x := by
  have hl : (l ++ [x]).length = l.length + 1 := by rw [List.length_append]; rfl
  unfold atI ixN
  rw [if_neg (by decide), if_pos (by omega), hl]
  show (l ++ [x])[((-1 : Int) + ((l.length + 1 : Nat) : Int)).toNat]? = some x
  rw [show ((-1 : Int) + ((l.length + 1 : Nat) : Int)).toNat = l.length by omega]
  simp
/-! the facts of two edits one behind another -/
structure Two (g t : List Nat) (e1 e2 B : List Wd) : Prop where
  eq : B = (PO (Ed.cmp (opsOf e1) (opsOf e2))).told
  ok : OkE g B
  tk : taken B = taken e1
  lf : lefts B = lefts e2
  it : iof (opsOf B) 0 = thr (iof (opsOf e1) 0) (iof (opsOf e2) 0)
theorem twoOf {g t : List Nat} {e1 e2 : List Wd} (h1 : OkE g e1) (h2 : OkE g e2) (h : taken e2 = lefts e1) (hv : taken e1 + lefts e2 ≤ 900) : Two g t e1 e2 (PO (Ed.cmp (opsOf e1) (opsOf e2))).told := by
  have hh : tk (opsOf e2) = leftO (opsOf e1) := by rw [tk_opsOf, left_opsOf, h]
  obtain ⟨c1, c2⟩ := cmp_items hh
  have c3 := cmp_left hh
  have inn : ∀ c, Op.p c ∈ Ed.cmp (opsOf e1) (opsOf e2) → c ∈ g := cmp_in (· ∈ g) _ _ _ (Nat.le_refl _) (fun c hc => by
    obtain ⟨w, hw1, hw2⟩ := List.mem_flatMap.mp hc
    obtain ⟨l, rfl, hl⟩ := opsW_in hw2
    exact (h1.ok _ hw1).2.1 c hl) (fun c hc => by
    obtain ⟨w, hw1, hw2⟩ := List.mem_flatMap.mp hc
    obtain ⟨l, rfl, hl⟩ := opsW_in hw2
    exact (h2.ok _ hw1).2.1 c hl)
  refine ⟨rfl, okE_told _ inn ?_, ?_, ?_, ?_⟩
  · rw [c2, c3, tk_opsOf, left_opsOf]; exact hv
  · rw [told_taken, c2, tk_opsOf]
  · rw [told_lefts, c3, left_opsOf]
  · rw [told_items, c1]
theorem ptold_thr {e1 e2 : List Wd} (h : taken e2 = lefts e1) : ptold (thr (iof (opsOf e1) 0) (iof (opsOf e2) 0)) (taken e1) = (PO (Ed.cmp (opsOf e1) (opsOf e2))).told := by
  have hh : tk (opsOf e2) = leftO (opsOf e1) := by rw [tk_opsOf, left_opsOf, h]
  obtain ⟨c1, c2⟩ := cmp_items hh
  rw [← c1, ← tk_opsOf e1, ← c2, ptold_eq]
/-- whichever two of three are put together first -/
theorem assoc_told {g : List Nat} {e1 e2 e3 A B : List Wd} (a : Two g [] e1 e2 A) (b : Two g [] e2 e3 B) (h12 : taken e2 = lefts e1) (h23 : taken e3 = lefts e2) :
    (PO (Ed.cmp (opsOf A) (opsOf e3))).told = (PO (Ed.cmp (opsOf e1) (opsOf B))).told := by
  have k1 : tk (opsOf e3) = leftO (opsOf A) := by rw [tk_opsOf, left_opsOf, a.lf, h23]
  have k2 : tk (opsOf B) = leftO (opsOf e1) := by rw [tk_opsOf, left_opsOf, b.tk, h12]
  obtain ⟨c1, c2⟩ := cmp_items k1
  obtain ⟨d1, d2⟩ := cmp_items k2
  refine told_eq ?_ ?_
  · rw [c1, d1, a.it, b.it, thr_assoc]
    intro j hj
    have := iof_old _ _ _ hj
    rw [tk_opsOf, h23] at this
    rw [iof_len, left_opsOf]
    omega
  · rw [c2, d2, tk_opsOf, tk_opsOf, a.tk]
theorem Two.out {g t : List Nat} {e1 e2 B : List Wd} (b : Two g [] e1 e2 B) (h1 : taken e1 = t.length) (h : taken e2 = lefts e1) : apl t B 0 = outI (outI t (iof (opsOf e1) 0)) (iof (opsOf e2) 0) := by
  rw [apl_items, b.it, out_thr (old_lt h1)]
  intro j hj
  have := iof_old _ _ _ hj
  rw [tk_opsOf, h] at this
  rw [iof_len, left_opsOf]
  omega
theorem same_told {e : List Wd} (hp : ∀ w ∈ e, pos w) (S : List Wd) (hS : opsOf S = List.replicate (taken e) .k) : (PO (Ed.cmp (opsOf S) (opsOf e))).told = (plainS e).told := by
  have hh : tk (opsOf e) = leftO (opsOf S) := by rw [hS, left_k, tk_opsOf]
  obtain ⟨c1, c2⟩ := cmp_items hh
  rw [plainS_ops e hp]
  refine told_eq ?_ ?_
  · rw [c1, hS, iof_kR]
    have e0 : ((List.range (taken e)).map fun k => It2.old (0 + k)) = (List.range (taken e)).map It2.old := List.map_congr_left fun k _ => by rw [Nat.zero_add]
    rw [e0]
    refine thr_same _ _ fun j hj => ?_
    have := iof_old _ _ _ hj
    rw [tk_opsOf] at this
    omega
  · rw [c2, hS, tk_k, tk_opsOf]
structure Turn (g t : List Nat) (e U : List Wd) : Prop where
  ok : OkE g U
  tk : taken U = lefts e
  lf : lefts U = taken e
  out : outI (outI t (iof (opsOf e) 0)) (iof (opsOf U) 0) = t
theorem turnOf {g t : List Nat} {e : List Wd} (h : OkE g e) (ht : ∀ c ∈ t, c ∈ g) (k : taken e = t.length) (hv : taken e + lefts e ≤ 900) : Turn g t e (turnS t e).1.told := by
  have eq := turnS_ops t e (pos_of_ok h)
  have htk : tk (opsOf e) = t.length := by rw [tk_opsOf, k]
  obtain ⟨k1, k2⟩ := opsT_tk t (opsOf e) 0 (by omega)
  rw [eq]
  refine ⟨okE_told _ (fun c hc => ht c (opsT_in t _ _ c hc)) ?_, ?_, ?_, ?_⟩
  · rw [k1, k2, left_opsOf, tk_opsOf]; omega
  · rw [told_taken, k1, left_opsOf]
  · rw [told_lefts, k2, tk_opsOf]
  · rw [told_items]
    have := back_out t (outI t (iof (opsOf e) 0)) (opsOf e) 0 0 (by omega) (by rw [List.drop_zero])
    rw [List.drop_zero] at this
    exact this
def sameW (a : List Nat) : List Wd := if a = [] then [] else [.k a.length]
theorem same_ops (a : List Nat) : opsOf (sameW a) = List.replicate a.length .k := by
  unfold sameW
  split
  · rename_i h; rw [h]; rfl
  · exact List.append_nil _
theorem same_ok {g a : List Nat} (h : a.length ≤ 60) : OkE g (sameW a) := by
  unfold sameW
  split
  · exact ⟨fun w hw => (by cases hw), Nat.zero_le _⟩
  · rename_i hne
    have : a.length ≠ 0 := fun e => hne (List.eq_nil_of_length_eq_zero e)
    exact ⟨fun w hw => by rw [List.mem_singleton.mp hw]; exact ⟨by omega, by omega⟩, by show a.length + 0 ≤ 900; omega⟩
theorem far_ok {g : List Nat} {e : List Wd} (h : OkE g e) (hv : vol e ≤ 800) : OkE g (e ++ [.k 1]) := by
  refine ⟨fun w hw => ?_, ?_⟩
  · rcases List.mem_append.mp hw with h1 | h1
    · exact h.ok w h1
    · rw [List.mem_singleton.mp h1]; exact ⟨by omega, by omega⟩
  · unfold vol at *
    rw [List.map_append, List.sum_append]
    show _ + (1 + 0) ≤ 900
    omega
theorem ev_same {K : PySem.W.Frag} {σ : L2.St} {H : Hp} {te : TE} {t : List Nat} (h : EvD K te σ H (.str (tx t))) (hl : t.length ≤ 60) :
    EvD K (tIf (tTest (tOp (rNeU K) te (tC (.str "")))) (tTup (tCons (tOp (rAddU K) (tC (.str "k")) (tCB rStrI (tCons (tCB (rLenU K) (tCons te tNil)) tNil))) tNil)) (tTup tNil)) σ H (eD (sameW t)) := by
  have n0 : ("" : Str) = tx [] := by decide +kernel
  have nk : ("k" : Str) = tx [107] := by decide +kernel
  refine ev_if (et_test (ev_neS h (ev_const n0))) (fun h' => EvD.is (ev_tup (ea_cons (ev_addS (ev_const nk) (EvD.is (ev_strI (ev_lenS h (sz_of (by omega))) ?_) (congrArg PyData.str (tx_dg t.length).symm)) (sz_of ?_)) ea_nil) (by show 1 ≤ sizeLine; decide)) ?_) (fun h' => EvD.is (ev_tup ea_nil (by show 0 ≤ sizeLine; decide)) ?_)
  · show t.length.log2 < 1920
    exact dg_num (by omega)
  · by_cases h0 : t.length = 0
    · rw [h0]; decide
    · have := (dgl t.length ⟨by omega, by omega⟩).1
      show 1 + _ ≤ _
      omega
  · have h2 : ¬ t = [] := by simpa using h'
    unfold sameW
    rw [if_neg h2]
    rfl
  · have h2 : t = [] := by simpa using h'
    unfold sameW
    rw [if_pos h2]
    rfl
end K75


namespace K75
open PySem PySem.Spec L2 T Ed
open PyProof.Rows hiding St
open C8 (Cal Mak Met pe_c pe_mk pe_mt pe_mt0 pe_gc)
abbrev spLaw (K : PySem.W.Frag) : Sp := fun vs H Q _ => ∃ (a : Addr) (ns : List Int), vs = [.ref a] ∧ SqL K H a (ns.map V.int) ∧ ns.length ≤ 63 ∧ H (He.cT K ("law", none)).2 = some (.tbl #[]) ∧ ∀ H', Q (.bl true) H'
theorem good_ab : Good [97, 98] := ⟨by decide, by decide, by decide, by decide +kernel⟩
theorem good_abc : Good [97, 98, 99] := ⟨by decide, by decide, by decide, by decide +kernel⟩
theorem good_a2 : Good [97, 59] := ⟨by decide, by decide, by decide, by decide +kernel⟩
/-- a table of code objects, among other things -/
theorem tabs_px {q : Str} {p Pt : Addr} {H H' : Hp} (k : IsK H p) (e : Px p H H') (h : LamX.TabS H Pt q) : LamX.TabS H' Pt q := by
  obtain ⟨ps, h1, h2, h3⟩ := h
  obtain ⟨kvs, hk⟩ := k
  refine ⟨ps, e _ _ (fun z => by rw [z, hk] at h1; cases h1) h1, h2, fun pos cv hc => ?_⟩
  obtain ⟨c, e1, e2⟩ := h3 pos cv hc
  refine ⟨c, e1, e _ _ (fun z => ?_) e2⟩
  rw [z, hk] at e2
  exact absurd (Option.some.inj e2) (by unfold LamX.CodeO; intro z; cases z)
theorem tabs_same {q : Str} {Pt : Addr} {H H' : Hp} (e : Same H H') (h : LamX.TabS H Pt q) : LamX.TabS H' Pt q := h.ext e
theorem tabs_upd {q : Str} {Pt W : Addr} {H : Hp} {xs ys : List V} (hW : H W = some (.lst xs)) (h : LamX.TabS H Pt q) : LamX.TabS (upd H W (.lst ys)) Pt q := by
  obtain ⟨ps, h1, h2, h3⟩ := h
  refine ⟨ps, by rw [upd_ne (fun z => by rw [z, hW] at h1; cases h1)]; exact h1, h2, fun pos cv hc => ?_⟩
  obtain ⟨c, e1, e2⟩ := h3 pos cv hc
  refine ⟨c, e1, ?_⟩
  rw [upd_ne (fun z => ?_)]
  · exact e2
  · rw [z, hW] at e2
    exact absurd (Option.some.inj e2) (by unfold LamX.CodeO; intro z; cases z)
theorem ext_rd {a : Addr} {H H' : Hp} {xs : List V} (e : LamX.ExtN H H') (h : Rd H a (.tup xs)) : Rd H' a (.tup xs) := by
  rcases h with h | ⟨o, h⟩
  · exact .inl (e a _ h fun ps z => by cases z)
  · exact .inr ⟨o, e a _ h fun ps z => by cases z⟩
mutual
theorem dd_ext {K : PySem.W.Frag} {H H' : Hp} (e : LamX.ExtN H H') : ∀ (d : PyData) (v : V), Dd K H v d → Dd K H' v d
  | .none, _, h => by cases h; exact .non
  | .bool b, _, h => by cases h; exact .bl b
  | .int i, _, h => by cases h; exact .int i
  | .str x, _, h => by cases h; exact .str x
  | .list ds, _, h => by
    cases h with
    | lst hs ha => exact .lst (e _ _ hs fun ps z => by cases z) (dda_ext e ds _ ha)
  | .tuple ds, _, h => by
    cases h with
    | tup hs ha =>
      refine .tup ?_ (dda_ext e ds _ ha)
      rcases hs with hs | hs
      · exact .inl (ext_rd e hs)
      · exact .inr hs
  | .dict _, _, h => by cases h
theorem dda_ext {K : PySem.W.Frag} {H H' : Hp} (e : LamX.ExtN H H') : ∀ (ds : List PyData) (vs : List V), DdA K H vs ds → DdA K H' vs ds
  | [], _, h => by cases h; exact .nil
  | d :: ds, _, h => by
    cases h with
    | cons h1 h2 => exact .cons (dd_ext e d _ h1) (dda_ext e ds _ h2)
end
theorem imm_eD (ws : List Wd) : imm (eD ws) = true := immAll_of fun d hd => by
  obtain ⟨x, _, rfl⟩ := List.mem_map.mp hd
  rfl
theorem pen_ext {H H' : Hp} {p c : Addr} {n : Nat} (e : LamX.ExtN H H') (h : PenAt H p c n) : PenAt H' p c n := by
  obtain ⟨ns, a, d, m, f, e1, e2, r⟩ := h.ex
  exact ⟨ns, a, d, m, f, e _ _ e1 (fun ps z => by cases z), e _ _ e2 (fun ps z => by cases z), r⟩
theorem shaped_nk (n : Int) : SeqAt.shaped (.tuple [.str "NotKept", .str "length", .int n]) = true := by
  have h1 : PyData.strOk "NotKept" = true := by decide +kernel
  have h2 : PyData.strOk "length" = true := by decide +kernel
  show ((PyData.strOk "NotKept" && (PyData.strOk "length" && (true && true))) && decide (max 0 (max 0 (max 0 0)) + 1 ≤ 64)) = true
  rw [h1, h2]
  rfl
abbrev lamQ : Str := (PyProof.Rows.envOfC "law" (defScope s_law) 0 0 .none).qual ++ "<lambda>"
section
theorem facts {P : Program} {w : World} {K : PySem.W.Frag} {mg : Str → Option Value} {f : Addr} (T : Tx K mg) (hfa : mg ("law" : Str) = some (.ref f)) :
    ∃ fd : FuncData, (∀ (s : Shared) (v : Value), BindsTo s fd ⟨[v], []⟩ [("script", v)]) ∧ ∀ base : Heap, K.In base → base.Ns mainGlobals mg → (∀ p ∈ tf.map (He.cT K), LamX.TabB base mg p.1 p.2) → FnOk P w K mg base CX0 30 f fd ["script"] (spLaw K) := by
  obtain ⟨fd, F⟩ := T.c.def_ 41 (d := d_law) rfl
  have e := hfa.symm.trans (g_law T)
  cases e
  have b := FunD.bindsA (ps := ["script"]) F fun _ _ _ _ _ _ us hl => match us, hl with | [_], _ => rfl
  obtain ⟨oc, od, dV, kV, doc, pm, an, cdv, ct, osl, rfl, lk, hcd, _, _⟩ := F.ex
  obtain ⟨cc, rfl⟩ := He.codeIn_ref hcd
  have hcc : He.codeOf K ("law", none) = cc := He.codeOf_eq lk rfl
  refine ⟨_, fun s v => b s [v] rfl, fun base _ _ hTB => ?_⟩
  have TB : LamX.TabB base mg cc (He.tabOf K cc) := by
    have := hTB (He.cT K ("law", none)) (List.mem_map.mpr ⟨_, List.mem_cons_self, rfl⟩)
    unfold He.cT at this
    rw [hcc] at this
    exact this
  have hPt : (He.cT K ("law", none)).2 = He.tabOf K cc := by
    unfold He.cT
    rw [hcc]
  refine fn_of (N := ["script", "pen", "lap", "signs", "texts", "edits", "time", "k", "one", "two", "both", "first", "text", "there", "same", "far"]) lk hcd sc_law (fun vs H Q E ⟨a, ns, e, _⟩ => by rw [e]; rfl) fun A outer s H vs Q E hr h => ?_
  refine (fun ⟨t, h1, h2⟩ => ⟨t, h1.nox, h2⟩ : (∃ t, PSs (cxOf CX0 P w K mg base ["script", "pen", "lap", "signs", "texts", "edits", "time", "k", "one", "two", "both", "first", "text", "there", "same", "far"] "law" (defScope s_law) _ (.ref cc) A outer s H E).nox (defBody s_law) t ∧ t { nx := fun _ H' => Q .non H', rt := Q } (L2.start ["script", "pen", "lap", "signs", "texts", "edits", "time", "k", "one", "two", "both", "first", "text", "there", "same", "far"] vs) H) → _) ⟨_, (pss_cons (ps_set (i := 1) sc_law.nd rfl (.inl rfl) (pe_c (c_L_pen T) hr (by decide) (by rfl) (pa_cons (pv 0) pa_nil)))
      (pss_cons (ps_for PassesOwn.never rfl (pi_range1 (by rfl) (z_range T) (pa_cons pe_int pa_nil)) (pg_name (i := 2) sc_law.nd rfl (.inl rfl))
        (pss_cons (ps_set (i := 3) sc_law.nd rfl (.inr rfl) (pe_c (c_L_pick T) hr (by decide) (by rfl) (pa_cons (pv 1) (pa_cons (pe_lst (pa_cons pe_str (pa_cons pe_str (pa_cons pe_str pa_nil)))) pa_nil))))
      (pss_cons (ps_par (i := 4) (j := 5) (by rfl) sc_law.nd rfl rfl (by decide) rfl rfl (pa_cons (pe_lst (pa_cons (pe_c (c_L_line T) hr (by decide) (by rfl) (pa_cons (pv 1) (pa_cons (pv 3) (pa_cons pe_int pa_nil)))) pa_nil)) (pa_cons (pe_lst pa_nil) pa_nil)) (by rfl))
      (pss_cons (ps_for PassesOwn.never rfl (pi_range1 (by rfl) (z_range T) (pa_cons (pe_op (uAdd K) pe_int (pe_c (c_L_draw T) hr (by decide) (by rfl) (pa_cons (pv 1) (pa_cons pe_int pa_nil)))) pa_nil)) (pg_name (i := 6) sc_law.nd rfl (.inl rfl))
        (pss_cons (ps_expr (pe_bm PySem.F.plainAttrs_list PySem.F.slot_list_append PySem.F.type_list_append mt_append (pv 5) (pa_cons (pe_c (c_L_some_edit T) hr (by decide) (by rfl) (pa_cons (pv 1) (pa_cons (pv 3) (pa_cons (pe_callB (uLen K) (by rfl) (z_len T) (by decide +kernel) (pa_cons (pe_ix (uIx K) (pv 4) (pe_un un_neg pe_int) (fun _ _ => rfl)) pa_nil)) pa_nil)))) pa_nil)))
      (pss_one (ps_expr (pe_bm PySem.F.plainAttrs_list PySem.F.slot_list_append PySem.F.type_list_append mt_append (pv 4) (pa_cons (pe_c (c_L_applied T) hr (by decide) (by rfl) (pa_cons (pe_c (c_L_items T) hr (by decide) (by rfl) (pa_cons (pe_ix (uIx K) (pv 5) (pe_un un_neg pe_int) (fun _ _ => rfl)) pa_nil)) (pa_cons (pe_ix (uIx K) (pv 4) (pe_un un_neg pe_int) (fun _ _ => rfl)) pa_nil))) pa_nil))))))
      (pss_cons (ps_for PassesOwn.never rfl (pi_range1 (by rfl) (z_range T) (pa_cons (pe_op op_sub (pe_callB (uLen K) (by rfl) (z_len T) (by decide +kernel) (pa_cons (pv 5) pa_nil)) pe_int) pa_nil)) (pg_name (i := 7) sc_law.nd rfl (.inl rfl))
        (pss_cons (ps_asg (pe_tup (pa_cons (pe_ix (uIx K) (pv 5) (pv 7) (fun _ _ => rfl)) (pa_cons (pe_ix (uIx K) (pv 5) (pe_op (uAdd K) (pv 7) pe_int) (fun _ _ => rfl)) pa_nil))) (uPgTup (n := 2) K (by rfl) (pgs_cons (pg_name (i := 8) sc_law.nd rfl (.inr rfl)) (pgs_cons (pg_name (i := 9) sc_law.nd rfl (.inl rfl)) pgs_nil))))
      (pss_cons (ps_set (i := 10) sc_law.nd rfl (.inl rfl) (pe_c (c_edit_behind T) hr (by decide) (by rfl) (pa_cons (pv 3) (pa_cons (pv 8) (pa_cons (pv 9) pa_nil)))))
      (pss_cons (ps_if (pt_cmpR (uNe K hr.units) (pv 10) (pe_c (c_L_plain_told T) hr (by decide) (by rfl) (pa_cons (pe_c (c_L_through T) hr (by decide) (by rfl) (pa_cons (pv 8) (pa_cons (pv 9) pa_nil))) (pa_cons (pe_callB (uLen K) (by rfl) (z_len T) (by decide +kernel) (pa_cons (pe_ix (uIx K) (pv 4) (pv 7) (fun _ _ => rfl)) pa_nil)) pa_nil))) (nomark _)) (pss_one (ps_ret pe_bl)) pss_nil)
      (pss_one (ps_if (PW.pt (pw_or (pt_cmpR (uNe K hr.units) (pe_c (c_applied T) hr (by decide) (by rfl) (pa_cons (pv 3) (pa_cons (pv 10) (pa_cons (pe_ix (uIx K) (pv 4) (pv 7) (fun _ _ => rfl)) pa_nil)))) (pe_ix (uIx K) (pv 4) (pe_op (uAdd K) (pv 7) pe_int) (fun _ _ => rfl)) (nomark _)) (pw_or1 (pt_cmpR (uNe K hr.units) (pe_ix (uIx K) (pe_c (c_edit_sizes T) hr (by decide) (by rfl) (pa_cons (pv 3) (pa_cons (pv 10) pa_nil))) pe_int (fun _ _ => rfl)) (pe_callB (uLen K) (by rfl) (z_len T) (by decide +kernel) (pa_cons (pe_ix (uIx K) (pv 4) (pv 7) (fun _ _ => rfl)) pa_nil)) (nomark _))))) (pss_one (ps_ret pe_bl)) pss_nil))))))
      (pss_cons (ps_for PassesOwn.never rfl (pi_range1 (by rfl) (z_range T) (pa_cons (pe_op op_sub (pe_callB (uLen K) (by rfl) (z_len T) (by decide +kernel) (pa_cons (pv 5) pa_nil)) pe_int) pa_nil)) (pg_name (i := 7) sc_law.nd rfl (.inl rfl))
        (pss_cons (ps_set (i := 11) sc_law.nd rfl (.inl rfl) (pe_c (c_edit_behind T) hr (by decide) (by rfl) (pa_cons (pv 3) (pa_cons (pe_c (c_edit_behind T) hr (by decide) (by rfl) (pa_cons (pv 3) (pa_cons (pe_ix (uIx K) (pv 5) (pv 7) (fun _ _ => rfl)) (pa_cons (pe_ix (uIx K) (pv 5) (pe_op (uAdd K) (pv 7) pe_int) (fun _ _ => rfl)) pa_nil)))) (pa_cons (pe_ix (uIx K) (pv 5) (pe_op (uAdd K) (pv 7) pe_int) (fun _ _ => rfl)) pa_nil)))))
      (pss_cons (ps_if (pt_cmpR (uNe K hr.units) (pv 11) (pe_c (c_edit_behind T) hr (by decide) (by rfl) (pa_cons (pv 3) (pa_cons (pe_ix (uIx K) (pv 5) (pv 7) (fun _ _ => rfl)) (pa_cons (pe_c (c_edit_behind T) hr (by decide) (by rfl) (pa_cons (pv 3) (pa_cons (pe_ix (uIx K) (pv 5) (pe_op (uAdd K) (pv 7) pe_int) (fun _ _ => rfl)) (pa_cons (pe_ix (uIx K) (pv 5) (pe_op (uAdd K) (pv 7) pe_int) (fun _ _ => rfl)) pa_nil)))) pa_nil)))) (nomark _)) (pss_one (ps_ret pe_bl)) pss_nil)
      (pss_one (ps_if (pt_cmpR (uNe K hr.units) (pe_c (c_applied T) hr (by decide) (by rfl) (pa_cons (pv 3) (pa_cons (pv 11) (pa_cons (pe_ix (uIx K) (pv 4) (pv 7) (fun _ _ => rfl)) pa_nil)))) (pe_ix (uIx K) (pv 4) (pe_op (uAdd K) (pv 7) pe_int) (fun _ _ => rfl)) (nomark _)) (pss_one (ps_ret pe_bl)) pss_nil)))))
      (pss_cons (ps_asg (pe_tup (pa_cons (pe_ix (uIx K) (pv 5) pe_int (fun _ _ => rfl)) (pa_cons (pe_ix (uIx K) (pv 4) pe_int (fun _ _ => rfl)) pa_nil))) (uPgTup (n := 2) K (by rfl) (pgs_cons (pg_name (i := 8) sc_law.nd rfl (.inr rfl)) (pgs_cons (pg_name (i := 12) sc_law.nd rfl (.inl rfl)) pgs_nil))))
      (pss_cons (ps_set (i := 13) sc_law.nd rfl (.inl rfl) (pe_c (c_edit_behind T) hr (by decide) (by rfl) (pa_cons (pv 3) (pa_cons (pv 8) (pa_cons (pe_c (c_turned_edit T) hr (by decide) (by rfl) (pa_cons (pv 3) (pa_cons (pv 8) (pa_cons (pv 12) pa_nil)))) pa_nil)))))
      (pss_cons (ps_if (pt_cmpR (uNe K hr.units) (pe_c (c_applied T) hr (by decide) (by rfl) (pa_cons (pv 3) (pa_cons (pv 13) (pa_cons (pv 12) pa_nil)))) (pv 12) (nomark _)) (pss_one (ps_ret pe_bl)) pss_nil)
      (pss_cons (ps_set (i := 14) sc_law.nd rfl (.inl rfl) (pe_ifExp (pt_cmpR (uNe K hr.units) (pv 12) pe_str (nomark _)) (pe_tup (pa_cons (pe_op (uAdd K) pe_str (pe_callTy (uStr) (by rfl) (z_str T) (by decide +kernel) (pa_cons (pe_callB (uLen K) (by rfl) (z_len T) (by decide +kernel) (pa_cons (pv 12) pa_nil)) pa_nil))) pa_nil)) (pe_tup pa_nil)))
      (pss_cons (ps_if (pt_cmpR (uNe K hr.units) (pe_c (c_edit_behind T) hr (by decide) (by rfl) (pa_cons (pv 3) (pa_cons (pv 14) (pa_cons (pv 8) pa_nil)))) (pe_c (c_plain_edit T) hr (by decide) (by rfl) (pa_cons (pv 3) (pa_cons (pv 8) pa_nil))) (nomark _)) (pss_one (ps_ret pe_bl)) pss_nil)
      (pss_cons (ps_set (i := 15) sc_law.nd rfl (.inr rfl) (pe_op (uAdd K) (pe_ix (uIx K) (pv 5) pe_int (fun _ _ => rfl)) (pe_tup (pa_cons pe_str pa_nil))))
      (pss_one (ps_if (pt_cmpR (uNe K hr.units) (pe_met (k := 20) T TB rfl (hr.mono (by decide)) (by rfl) (LamX.lamS_by (sc := defScope s_law) (by decide +kernel)) rfl (fun _ _ _ _ _ => rfl) (fun A2 o2 s2 H2 E2 f2 c2 hr => (pe_cx (cx_edit_behind T) hr (by decide) (by rfl) (takes_of rfl rfl rfl rfl) (fun _ _ _ _ h => h) (pa_cons (pv 3) (pa_cons (pv 8) (pa_cons (pv 15) pa_nil)))))) (pe_tup (pa_cons pe_str (pa_cons pe_str (pa_cons (pe_op (uAdd K) (pe_callB (uLen K) (by rfl) (z_len T) (by decide +kernel) (pa_cons (pe_ix (uIx K) (pv 4) pe_int (fun _ _ => rfl)) pa_nil)) pe_int) pa_nil)))) (nomark _)) (pss_one (ps_ret pe_bl)) pss_nil))))))))))))))
      (pss_one (ps_ret pe_bl)))), ?_⟩
  obtain ⟨a, ns, rfl, ha, hn, htb, q⟩ := h
  have ht0 : LamX.TabS H (He.tabOf K cc) lamQ := LamX.TabS.nil (by rw [← hPt]; exact htb)
  refine s_seq ?_
  refine ⟨V.ref a, rfl, a, ns, rfl, ha, hn, fun p c H1 s1 pa => ?_⟩
  dsimp only [gName]
  have ht1 := ht0.ext s1
  refine s_seq ?_
  refine ⟨6, rfl, by decide, by decide, ?_⟩
  refine for_range (fun i σ' H' => ∃ (z2 z3 z4 z5 z6 z7 z8 z9 z10 z11 z12 z13 z14 z15 : Option V), σ' = [some (.ref a), some (.ref p), z2, z3, z4, z5, z6, z7, z8, z9, z10, z11, z12, z13, z14, z15] ∧ PenAt H' p c (6000 * i) ∧ LamX.TabS H' (He.tabOf K cc) lamQ) ⟨none, none, none, none, none, none, none, none, none, none, none, none, none, none, rfl, pa, ht1⟩ ?_ ?_
  · rintro i σ' H2 hi ⟨z2, z3, z4, z5, z6, z7, z8, z9, z10, z11, z12, z13, z14, z15, rfl, pa, ht⟩
    have hi6 : i < 6 := hi
    refine s_seq (s_setP (K := K) (c := c) (m := 1) pa (by omega) (EvP.imp (R' := fun d => ∃ g, Good g ∧ d = .str (tx g)) (evp_pickL (ds := [.str (tx [97, 98]), .str (tx [97, 98, 99]), .str (tx [97, 59])]) rfl (fun H1 _ _ => ev_lst (ea_cons (ev_const (by decide +kernel)) (ea_cons (ev_const (by decide +kernel)) (ea_cons (ev_const (by decide +kernel)) ea_nil))) (by show 3 ≤ sizeLine; decide)) (by decide) (by decide)) fun d hd => ?_) fun v3 H3 d3 px3 pa3 ⟨g, hg, e3⟩ dv3 => ?_)
    · rcases List.mem_cons.mp hd with e | hd
      · exact ⟨_, good_ab, e⟩
      rcases List.mem_cons.mp hd with e | hd
      · exact ⟨_, good_abc, e⟩
      · exact ⟨_, good_a2, List.mem_singleton.mp hd⟩
    · subst e3
      rw [dd_str dv3]
      have g1 := hg.lo
      have g2 := hg.hi
      have ht3 := tabs_px pa.isK px3 ht
      -- the first text
      dsimp only
      refine s_seq (s_parU (ta_consU ?_))
      refine ⟨.ref p, rfl, .str (tx g), rfl, ?_⟩
      refine ⟨p, c, _, .str (tx g), g, 8, rfl, pa3, by omega, .str _, g1, by omega, by omega, fun t0 H4 htl0 htg0 px4 pa4 => ?_⟩
      refine ⟨by show 1 ≤ sizeLine; decide, fun TX hTX => ?_⟩
      refine ⟨by show 0 ≤ sizeLine; decide, fun ED hED => ?_⟩
      refine ⟨_, _, rfl, ?_⟩
      have ht4 := tabs_px pa3.isK px4 ht3
      obtain ⟨nTp, nTc⟩ := pa4.ne hTX
      have sT := sm_new (o := .lst [V.str (tx t0)]) hTX
      have sE := sm_new (o := .lst []) hED
      obtain ⟨nEp, nEc⟩ := (pa4.same sT).ne hED
      have nTE : TX ≠ ED := fun e => by rw [← e, upd_same] at hED; cases hED
      have pa5 := (pa4.same sT).same sE
      have ht5 := (ht4.ext sT).ext sE
      have eTX : upd (upd H4 TX (.lst [V.str (tx t0)])) ED (.lst []) TX = some (.lst (([] ++ [t0]).map tV)) := by rw [upd_ne nTE, upd_same]; rfl
      have eED : upd (upd H4 TX (.lst [V.str (tx t0)])) ED (.lst []) ED = some (.lst []) := upd_same
      generalize upd (upd H4 TX (.lst [V.str (tx t0)])) ED (.lst []) = H5 at pa5 ht5 eTX eED
      dsimp only
      -- edits, one behind another
      refine s_seq ?_
      refine (evp_add (K := K) (c := c) (m := 0) (m' := 1) (A := (· = 3)) (B := (· < 2)) (EvP.imp (evp_of fun H1 _ _ => ev_int) fun d e => ⟨3, rfl, e⟩) (evp_draw (k := 2) rfl (fun H1 _ _ => ev_int) (by decide) (by decide))) H5 _ (.refl _ _) pa5 (by omega) _ fun v6 H6 d6 px6 pa6 ⟨x3, r, ex3, hr2, e6⟩ dv6 => ?_
      subst ex3 e6
      rw [dd_int dv6]
      refine ⟨_, rfl, by omega, by omega, ?_⟩
      rw [show ((3 + r : Nat) : Int).toNat = 3 + r by omega]
      refine for_range (fun j σ' H' => ∃ (z6 : Option V) (ts : List (List Nat)) (t : List Nat) (es : List (List Wd)) (evs : List V), σ' = [some (.ref a), some (.ref p), some (.int (0 + (i : Nat))), some (.str (tx g)), some (.ref TX), some (.ref ED), z6, z7, z8, z9, z10, z11, z12, z13, z14, z15] ∧ Chn g (ts ++ [t]) es ∧ es.length = j ∧ H' TX = some (.lst ((ts ++ [t]).map tV)) ∧ H' ED = some (.lst evs) ∧ DdA K H' evs (es.map eD) ∧ PenAt H' p c (6000 * i + 100 + 1400 * j) ∧ LamX.TabS H' (He.tabOf K cc) lamQ)
        ⟨z6, [], t0, [], [], rfl, Chn.one (by omega) htg0, rfl, px6 _ _ nTp eTX, px6 _ _ nEp eED, .nil, pa6.le (by omega), tabs_px pa5.isK px6 ht5⟩ ?_ ?_
      · rintro j σ' H7 hj ⟨z6, ts, t, es, evs, rfl, ch, hes, eTX, eED, dED, pa7, ht7⟩
        have hts : ts.length = es.length := by
          have := ch.len
          rw [List.length_append, List.length_singleton] at this
          omega
        have htt := ch.tx ts.length t (by simp)
        have hevl : evs.length = es.length := by rw [dda_len dED, List.length_map]
        have elast : ∀ {H' : Hp} {σ : L2.St}, σ[4]? = some (some (.ref TX)) → H' TX = some (.lst ((ts ++ [t]).map tV)) → EvD K (tOp (rIx K) (tVar 4) (tUn (rU fun i => .int (-i)) (tC (.int 1)))) σ H' (.str (tx t)) := fun hs e => ev_ixL (ds := (ts ++ [t]).map sD) (ev_var hs (.lst e (dda_of_tV _))) (ev_un ev_int) (by rw [List.map_append]; exact atI_last _ _)
        refine s_seq ?_
        refine ⟨.ref ED, rfl, .inl ⟨rfl, _, .of eED⟩, ?_⟩
        refine ⟨.ref p, rfl, .str (tx g), rfl, ?_⟩
        refine (ev_lenS (K := K) (elast rfl eTX) (sz_of (by omega))) H7 (.refl _) _ fun u8 H8 s8 d8 => ?_
        rw [dd_int d8]
        refine ⟨p, c, _, .str (tx g), g, t.length, rfl, pa7.same s8, by omega, .str _, g1, by omega, htt.1, fun u9 ws H9 hok hvol htk px9 pa9 d9 => ?_⟩
        have eED9 := px9 _ _ nEp (s8 _ _ eED)
        have eTX9 := px9 _ _ nTp (s8 _ _ eTX)
        have dED9 := dda_px (pa7.same s8).isK px9 _ _ (dda_sm s8 _ _ dED)
        refine ⟨ED, evs, u9, rfl, rfl, eED9, by rw [hevl, sizeLine_eq]; omega, ?_⟩
        have ts9 : Ts H9 (upd H9 ED (.lst (evs ++ [u9]))) := Ts.put eED9 (fun xs z => by cases z) (fun o u z => by cases z)
        have imE : immAll (es.map eD) = true := immAll_of fun d hd => by
          obtain ⟨x, _, rfl⟩ := List.mem_map.mp hd
          exact imm_eD x
        have dED10 : DdA K (upd H9 ED (.lst (evs ++ [u9]))) (evs ++ [u9]) ((es ++ [ws]).map eD) := by
          rw [List.map_append]
          exact dda_app (dda_ts ts9 _ _ imE dED9) (.cons (dd_ts ts9 _ _ (imm_eD ws) d9) .nil)
        have eTX10 : upd H9 ED (.lst (evs ++ [u9])) TX = some (.lst ((ts ++ [t]).map tV)) := by rw [upd_ne nTE]; exact eTX9
        have eED10 : upd H9 ED (.lst (evs ++ [u9])) ED = some (.lst (evs ++ [u9])) := upd_same
        have pa10 := pa9.upd (o := .lst (evs ++ [u9])) nEp nEc
        have ht10 := tabs_upd (ys := evs ++ [u9]) eED9 (tabs_px (pa7.same s8).isK px9 (ht7.ext s8))
        generalize upd H9 ED (.lst (evs ++ [u9])) = H10 at dED10 eTX10 eED10 pa10 ht10
        have hE : OkE g ws := ⟨hok, by omega⟩
        dsimp only
        refine s_appE (K := K) rfl eTX10 (ev_call (ea_cons (ev_call (ea_cons (ev_ixL (ds := (es ++ [ws]).map eD) (d := eD ws) (ev_var (i := 5) rfl (.lst eED10 dED10)) (ev_un ev_int) (by rw [List.map_append]; exact atI_last _ _)) ea_nil) (spD.of (R := R_L_items) (.mk g ws hE))) (ea_cons (elast rfl eTX10) ea_nil)) (spD.of (R := R_L_applied) (.mk (iof (opsOf ws) 0) t (old_lt htk) (by omega) (by
          rw [iof_len, left_opsOf]
          have := lefts_vol ws
          omega)))) (by rw [List.length_map, List.length_append, List.length_singleton]; omega) fun v11 H11 s11 d11 => ?_
        rw [dd_str d11]
        have ts11 : Ts H11 (upd H11 TX (.lst ((ts ++ [t]).map tV ++ [V.str (tx (outI t (iof (opsOf ws) 0)))]))) := Ts.put (s11 _ _ eTX10) (fun xs z => by cases z) (fun o u z => by cases z)
        have imE2 : immAll ((es ++ [ws]).map eD) = true := immAll_of fun d hd => by
          obtain ⟨x, _, rfl⟩ := List.mem_map.mp hd
          exact imm_eD x
        refine ⟨_, ts ++ [t], outI t (iof (opsOf ws) 0), es ++ [ws], evs ++ [u9], rfl, ch.snoc hok hvol htk, by rw [List.length_append, hes]; rfl, ?_, by rw [upd_ne nTE.symm]; exact s11 _ _ eED10, dda_ts ts11 _ _ imE2 (dda_sm s11 _ _ dED10), ((pa10.same s11).upd nTp nTc).le (by omega), tabs_upd (s11 _ _ eTX10) (ht10.ext s11)⟩
        rw [upd_same, List.map_append (l₁ := ts ++ [t])]
        rfl
      · rintro σ' H7 ⟨z6, ts, t, es, evs, rfl, ch, hes, eTX, eED, dED, pa7, ht7⟩
        generalize ts ++ [t] = TS at ch eTX
        have dT : ∀ {H' : Hp}, Same H7 H' → Dd K H' (.ref TX) (.list (TS.map sD)) := fun s => .lst (s _ _ eTX) (dda_of_tV _)
        have dE : ∀ {H' : Hp}, Same H7 H' → Dd K H' (.ref ED) (.list (es.map eD)) := fun s => .lst (s _ _ eED) (dda_sm s _ _ dED)
        have gE : ∀ {te : TE} {σ : L2.St} {H' : Hp} {k : Nat} {e : List Wd}, σ[5]? = some (some (.ref ED)) → Same H7 H' → EvD K te σ H' (.int (k : Nat)) → es[k]? = some e → EvD K (tOp (rIx K) (tVar 5) te) σ H' (eD e) := fun hs s h he => ev_ixL (ds := es.map eD) (ev_var hs (dE s)) h (atI_nat (by rw [List.getElem?_map, he]; rfl))
        have gT : ∀ {te : TE} {σ : L2.St} {H' : Hp} {k : Nat} {u : List Nat}, σ[4]? = some (some (.ref TX)) → Same H7 H' → EvD K te σ H' (.int (k : Nat)) → TS[k]? = some u → EvD K (tOp (rIx K) (tVar 4) te) σ H' (.str (tx u)) := fun hs s h he => ev_ixL (ds := TS.map sD) (ev_var hs (dT s)) h (atI_nat (by rw [List.getElem?_map, he]; rfl))
        -- what two edits one behind another are
        have two : ∀ k, k + 1 < es.length → ∃ (e1 e2 : List Wd) (t1 t2 t3 : List Nat), es[k]? = some e1 ∧ es[k + 1]? = some e2 ∧ TS[k]? = some t1 ∧ TS[k + 1]? = some t2 ∧ TS[k + 2]? = some t3 ∧ OkE g e1 ∧ OkE g e2 ∧ Tex g t1 ∧ taken e1 = t1.length ∧ taken e2 = t2.length ∧ taken e2 = lefts e1 ∧ t2 = outI t1 (iof (opsOf e1) 0) ∧ t3 = outI t2 (iof (opsOf e2) 0) ∧ t1.length ≤ 60 ∧ lefts e1 ≤ 60 ∧ lefts e2 ≤ 60 := fun k hk => by
          have h1 : es[k]? = some es[k] := List.getElem?_eq_getElem (by omega)
          have h2 : es[k + 1]? = some es[k + 1] := List.getElem?_eq_getElem hk
          obtain ⟨ok1, v1, t1, a1, a2, a3⟩ := ch.ed k _ h1
          obtain ⟨ok2, v2, t2, b1, b2, b3⟩ := ch.ed (k + 1) _ h2
          rw [a3] at b1
          cases b1
          have h3 := ch.tx k t1 a1
          have hl : taken es[k + 1] = lefts es[k] := by rw [b2, out_one (old_lt a2), iof_len, left_opsOf]
          have l1 := lefts_vol es[k]
          have l2 := lefts_vol es[k + 1]
          exact ⟨_, _, t1, _, _, h1, h2, a1, a3, b3, ⟨ok1, by omega⟩, ⟨ok2, by omega⟩, ⟨h3.2, by omega⟩, a2, b2, hl, rfl, rfl, h3.1, by omega, by omega⟩
        have hsz : TS.length ≤ 6 := by have := ch.len; omega
        -- two edits
        dsimp only
        refine s_seq ?_
        refine (EvD.is (ev_opI (K := K) (f := .int ((es.length : Int) - 1)) (fun _ => .int _) (EvD.is (ev_lenL (ev_var (i := 5) rfl (dE (.refl _)))) (by rw [List.length_map])) ev_int) (show _ = PyData.int ((es.length - 1 : Nat) : Int) from congrArg PyData.int (by omega))) H7 (.refl _) _ fun u8 H8 s8 d8 => ?_
        rw [dd_int d8]
        refine ⟨_, rfl, by omega, by omega, ?_⟩
        rw [show ((es.length - 1 : Nat) : Int).toNat = es.length - 1 by omega]
        refine for_range (fun k σ' H' => ∃ (z7 z8 z9 z10 : Option V), σ' = [some (.ref a), some (.ref p), some (.int (0 + (i : Nat))), some (.str (tx g)), some (.ref TX), some (.ref ED), z6, z7, z8, z9, z10, z11, z12, z13, z14, z15] ∧ Same H7 H') ⟨z7, z8, z9, z10, rfl, s8⟩ ?_ ?_
        · rintro k σ' H9 hk ⟨z7, z8, z9, z10, rfl, s9⟩
          obtain ⟨e1, e2, t1, t2, t3, i1, i2, j1, j2, j3, h1, h2, x1, k1, k2, hh, o2, o3, b1, b2, b3⟩ := two k (by omega)
          have b := twoOf h1 h2 hh (by omega) (t := [])
          have hpt := ptold_thr hh
          generalize hB : (PO (Ed.cmp (opsOf e1) (opsOf e2))).told = B at b hpt
          have hout := b.out k1 hh
          rw [← o2, ← o3] at hout
          have kk : ∀ {H' : Hp} {z8 z9 z10 : Option V}, EvD K (tVar 7) [some (.ref a), some (.ref p), some (.int (0 + (i : Nat))), some (.str (tx g)), some (.ref TX), some (.ref ED), z6, some (.int (0 + (k : Nat))), z8, z9, z10, z11, z12, z13, z14, z15] H' (.int (k : Nat)) := EvD.is (ev_var rfl (.int _)) (by rw [Int.zero_add])
          have kn : ∀ {H' : Hp} {z8 z9 z10 : Option V} {m : Nat}, EvD K (tOp (rAddU K) (tVar 7) (tC (.int (m : Nat)))) [some (.ref a), some (.ref p), some (.int (0 + (i : Nat))), some (.str (tx g)), some (.ref TX), some (.ref ED), z6, some (.int (0 + (k : Nat))), z8, z9, z10, z11, z12, z13, z14, z15] H' (.int ((k + m : Nat) : Int)) := EvD.is (ev_add kk ev_int) (congrArg PyData.int (by omega))
          refine s_seq (s_asgPair (ev_tup (ea_cons (gE rfl s9 kk i1) (ea_cons (gE rfl s9 (kn (m := 1)) i2) ea_nil)) (by show 2 ≤ sizeLine; decide)) fun x8 x9 H10 s10 d1 d2 => ?_)
          refine s_seq (s_set (EvD.is (ev_call (ea_cons (ev_var rfl (.str (tx g))) (ea_cons (ev_var rfl d1) (ea_cons (ev_var rfl d2) ea_nil))) (spD.of (R := R_edit_behind) (.mk g hg e1 e2 h1 h2 hh))) (by rw [hB])) fun x10 H11 s11 d10 => ?_)
          have s911 := (s9.trans s10).trans s11
          refine s_seq (s_ifF (EvT.is (et_test (ev_ne (ev_var rfl d10) (EvD.is (ev_call (ea_cons (ev_call (ea_cons (ev_var rfl (dd_sm s11 _ _ d1)) (ea_cons (ev_var rfl (dd_sm s11 _ _ d2)) ea_nil)) (spD.of (R := R_L_through) (.mk g e1 e2 h1 h2 hh))) (ea_cons (EvD.is (ev_lenS (gT rfl s911 kk j1) (sz_of (by omega))) (by rw [← k1])) ea_nil)) (spD.of (R := R_L_plain_told) (.mk _ (taken e1) (fun j hj => by
              rw [← b.it] at hj
              have := iof_old _ _ _ hj
              rw [tk_opsOf, b.tk] at this
              omega) (by omega) (by rw [← b.it, iof_len, left_opsOf, b.lf]; omega)))) (by rw [hpt])) (shaped_eD hg b.ok.ok) (shaped_eD hg b.ok.ok))) (by rw [eqv_eD hg b.ok.ok]; rfl)) fun H12 s12 => ?_)
          have s912 := s911.trans s12
          refine s_ifF (EvT.is (et_or (et_test (ev_neS (EvD.is (ev_call (ea_cons (ev_var rfl (.str (tx g))) (ea_cons (ev_var rfl (dd_sm s12 _ _ d10)) (ea_cons (gT rfl s912 kk j1) ea_nil))) (spD.of (R := R_applied) (.mk g hg B b.ok t1 x1 (by rw [b.tk, k1])))) (by rw [hout])) (gT rfl s912 (kn (m := 2)) j3))) (fun _ => et_test (ev_neI (ev_ixT (ev_call (ea_cons (ev_var rfl (.str (tx g))) (ea_cons (ev_var rfl (dd_sm s12 _ _ d10)) ea_nil)) (spD.of (R := R_edit_sizes) (.mk g hg B b.ok))) ev_int (atI_nat (j := 0) rfl)) (ev_lenS (gT rfl s912 kk j1) (sz_of (by omega)))))) (show _ = false by rw [b.tk, k1]; simp)) fun H13 s13 => ?_
          exact ⟨_, _, _, _, rfl, s912.trans s13⟩
        · rintro σ' H9 ⟨z7, z8, z9, z10, rfl, s9⟩
          -- three edits
          dsimp only
          refine s_seq ?_
          refine (EvD.is (ev_opI (K := K) (f := .int ((es.length : Int) - 2)) (fun _ => .int _) (EvD.is (ev_lenL (ev_var (i := 5) rfl (dE s9))) (by rw [List.length_map])) ev_int) (show _ = PyData.int ((es.length - 2 : Nat) : Int) from congrArg PyData.int (by omega))) H9 (.refl _) _ fun u10 H10 s10 d10 => ?_
          rw [dd_int d10]
          refine ⟨_, rfl, by omega, by omega, ?_⟩
          rw [show ((es.length - 2 : Nat) : Int).toNat = es.length - 2 by omega]
          refine for_range (fun k σ' H' => ∃ (z7 z11 : Option V), σ' = [some (.ref a), some (.ref p), some (.int (0 + (i : Nat))), some (.str (tx g)), some (.ref TX), some (.ref ED), z6, z7, z8, z9, z10, z11, z12, z13, z14, z15] ∧ Same H7 H') ⟨z7, z11, rfl, s9.trans s10⟩ ?_ ?_
          · rintro k σ' H11 hk ⟨z7, z11, rfl, s11⟩
            obtain ⟨e1, e2, t1, t2, t3, i1, i2, j1, j2, j3, h1, h2, x1, k1, k2, hh, o2, o3, b1, b2, b3⟩ := two k (by omega)
            obtain ⟨e2', e3, t2', t3', t4, i2', i3, j2', j3', j4, h2', h3, x2, k2', k3, hh2, o3', o4, c1, c2, c3⟩ := two (k + 1) (by omega)
            rw [i2] at i2'
            cases i2'
            rw [j2] at j2'
            cases j2'
            rw [j3] at j3'
            cases j3'
            have b := twoOf h1 h2 hh (by omega) (t := [])
            have b' := twoOf h2 h3 hh2 (by omega) (t := [])
            have has := assoc_told b b' hh hh2
            generalize hB : (PO (Ed.cmp (opsOf e1) (opsOf e2))).told = B at b has
            generalize hB' : (PO (Ed.cmp (opsOf e2) (opsOf e3))).told = B' at b' has
            have hh3 : taken e3 = lefts B := by rw [b.lf, hh2]
            have hh4 : taken B' = lefts e1 := by rw [b'.tk, hh]
            have bb := twoOf b.ok h3 hh3 (by rw [b.tk]; omega) (t := [])
            have hout := bb.out (t := t1) (by rw [b.tk, k1]) hh3
            have hmid : outI t1 (iof (opsOf B) 0) = t3 := by
              rw [← apl_items, b.out k1 hh, ← o2, ← o3]
            rw [hmid, ← o4] at hout
            generalize hF : (PO (Ed.cmp (opsOf B) (opsOf e3))).told = Fd at bb has hout
            have kk : ∀ {H' : Hp} {z11 : Option V}, EvD K (tVar 7) [some (.ref a), some (.ref p), some (.int (0 + (i : Nat))), some (.str (tx g)), some (.ref TX), some (.ref ED), z6, some (.int (0 + (k : Nat))), z8, z9, z10, z11, z12, z13, z14, z15] H' (.int (k : Nat)) := EvD.is (ev_var rfl (.int _)) (by rw [Int.zero_add])
            have kn : ∀ {H' : Hp} {z11 : Option V} {m : Nat}, EvD K (tOp (rAddU K) (tVar 7) (tC (.int (m : Nat)))) [some (.ref a), some (.ref p), some (.int (0 + (i : Nat))), some (.str (tx g)), some (.ref TX), some (.ref ED), z6, some (.int (0 + (k : Nat))), z8, z9, z10, z11, z12, z13, z14, z15] H' (.int ((k + m : Nat) : Int)) := EvD.is (ev_add kk ev_int) (congrArg PyData.int (by omega))
            refine s_seq (s_set (EvD.is (ev_call (ea_cons (ev_var rfl (.str (tx g))) (ea_cons (EvD.is (ev_call (ea_cons (ev_var rfl (.str (tx g))) (ea_cons (gE rfl s11 kk i1) (ea_cons (gE rfl s11 (kn (m := 1)) i2) ea_nil))) (spD.of (R := R_edit_behind) (.mk g hg e1 e2 h1 h2 hh))) (by rw [hB])) (ea_cons (gE rfl s11 (kn (m := 2)) i3) ea_nil))) (spD.of (R := R_edit_behind) (.mk g hg B e3 b.ok h3 hh3))) (by rw [hF])) fun x12 H12 s12 d12 => ?_)
            have s712 := s11.trans s12
            refine s_seq (s_ifF (EvT.is (et_test (ev_ne (ev_var rfl d12) (EvD.is (ev_call (ea_cons (ev_var rfl (.str (tx g))) (ea_cons (gE rfl s712 kk i1) (ea_cons (EvD.is (ev_call (ea_cons (ev_var rfl (.str (tx g))) (ea_cons (gE rfl s712 (kn (m := 1)) i2) (ea_cons (gE rfl s712 (kn (m := 2)) i3) ea_nil))) (spD.of (R := R_edit_behind) (.mk g hg e2 e3 h2 h3 hh2))) (by rw [hB'])) ea_nil))) (spD.of (R := R_edit_behind) (.mk g hg e1 B' h1 b'.ok hh4))) (by rw [← has])) (shaped_eD hg bb.ok.ok) (shaped_eD hg bb.ok.ok))) (by rw [eqv_eD hg bb.ok.ok]; rfl)) fun H13 s13 => ?_)
            have s713 := s712.trans s13
            refine s_ifF (EvT.is (et_test (ev_neS (EvD.is (ev_call (ea_cons (ev_var rfl (.str (tx g))) (ea_cons (ev_var rfl (dd_sm s13 _ _ d12)) (ea_cons (gT rfl s713 kk j1) ea_nil))) (spD.of (R := R_applied) (.mk g hg Fd bb.ok t1 x1 (by rw [bb.tk, b.tk, k1])))) (by rw [hout])) (gT rfl s713 (kn (m := 3)) j4))) (show _ = false by simp)) fun H14 s14 => ?_
            exact ⟨_, _, rfl, s713.trans s14⟩
          · rintro σ' H11 ⟨z7, z11, rfl, s11⟩
            obtain ⟨e1, e2, t1, t2, t3, i1, i2, j1, j2, j3, h1, h2, x1, k1, k2, hh, o2, o3, b1, b2, b3⟩ := two 0 (by omega)
            have tn := turnOf h1 x1.inn k1 (by omega)
            generalize hU : (turnS t1 e1).1.told = U at tn
            have b := twoOf h1 tn.ok tn.tk (by rw [k1, tn.lf]; omega) (t := [])
            have hout := b.out k1 tn.tk
            rw [tn.out] at hout
            generalize hB : (PO (Ed.cmp (opsOf e1) (opsOf U))).told = B at b hout
            dsimp only
            refine s_seq (s_asgPair (ev_tup (ea_cons (gE (k := 0) rfl s11 ev_int i1) (ea_cons (gT (k := 0) rfl s11 ev_int j1) ea_nil)) (by show 2 ≤ sizeLine; decide)) fun x8 x12 H12 s12 d8 d12 => ?_)
            have e12 := dd_str d12
            subst e12
            refine s_seq (s_set (EvD.is (ev_call (ea_cons (ev_var rfl (.str (tx g))) (ea_cons (ev_var rfl d8) (ea_cons (EvD.is (ev_call (ea_cons (ev_var rfl (.str (tx g))) (ea_cons (ev_var rfl d8) (ea_cons (ev_var rfl (.str (tx t1))) ea_nil))) (spD.of (R := R_turned_edit) (.mk g hg e1 h1 t1 x1 k1))) (by rw [hU])) ea_nil))) (spD.of (R := R_edit_behind) (.mk g hg e1 U h1 tn.ok tn.tk))) (by rw [hB])) fun x13 H13 s13 d13 => ?_)
            refine s_seq (s_ifF (EvT.is (et_test (ev_neS (EvD.is (ev_call (ea_cons (ev_var rfl (.str (tx g))) (ea_cons (ev_var rfl d13) (ea_cons (ev_var rfl (.str (tx t1))) ea_nil))) (spD.of (R := R_applied) (.mk g hg B b.ok t1 x1 (by rw [b.tk, k1])))) (by rw [hout])) (ev_var rfl (.str (tx t1))))) (show _ = false by simp)) fun H14 s14 => ?_)
            have hsm := same_ops t1
            have hso := same_ok (g := g) (a := t1) b1
            have hst : taken (sameW t1) = t1.length := by rw [← tk_opsOf, hsm, tk_k]
            have hsl : lefts (sameW t1) = t1.length := by rw [← left_opsOf, hsm, left_k]
            have hs1 : taken e1 = lefts (sameW t1) := by rw [hsl, k1]
            have bs := twoOf hso h1 hs1 (by omega) (t := [])
            have htold := same_told (pos_of_ok h1) (sameW t1) (by rw [hsm, k1])
            rw [htold] at bs
            refine s_seq (s_set (ev_same (t := t1) (ev_var (i := 12) rfl (.str _)) b1) fun x14 H15 s15 d14 => ?_)
            have s1215 := (s13.trans s14).trans s15
            have d8' := dd_sm s1215 _ _ d8
            refine s_seq (s_ifF (EvT.is (et_test (ev_ne (EvD.is (ev_call (ea_cons (ev_var rfl (.str (tx g))) (ea_cons (ev_var rfl d14) (ea_cons (ev_var rfl d8') ea_nil))) (spD.of (R := R_edit_behind) (.mk g hg (sameW t1) e1 hso h1 hs1))) (by rw [htold])) (ev_call (ea_cons (ev_var rfl (.str (tx g))) (ea_cons (ev_var rfl d8') ea_nil)) (spD.of (R := R_plain_edit) (.mk g hg e1 h1))) (shaped_eD hg bs.ok.ok) (shaped_eD hg bs.ok.ok))) (by rw [eqv_eD hg bs.ok.ok]; rfl)) fun H16 s16 => ?_)
            -- too far
            have s716 := ((s11.trans s12).trans s1215).trans s16
            have hfar := far_ok h2 (by have := h2.vo; have := (ch.ed 1 e2 i2).2.1; omega)
            have hft : taken (e2 ++ [.k 1]) = taken e2 + 1 := taken_snoc e2 (.k 1)
            refine s_seq (s_set (EvD.is (ev_addT (gE (k := 1) rfl s716 ev_int i2) (ev_tup (ea_cons (ev_const (a := wtx (.k 1)) (by decide +kernel)) ea_nil) (by show 1 ≤ sizeLine; decide)) (sz_of (by have := h2.hi; rw [List.length_map]; show _ + 1 ≤ _; omega))) (show _ = eD (e2 ++ [.k 1]) by unfold eD; rw [List.map_append]; rfl)) fun x15 H17 s17 d15 => ?_)
            have s717 := s716.trans s17
            have ht17 := ht7.ext s717
            have d8'' := dd_sm ((s1215.trans s16).trans s17) _ _ d8
            have pa17 := pa7.same s717
            dsimp only
            refine ⟨fun pr hpr => ?_, fun H18 ex18 tb18 => ?_⟩
            · rw [List.mem_singleton.mp hpr]
              exact ht17
            have ht18 : LamX.TabS H18 (He.tabOf K cc) lamQ := tb18 _ List.mem_cons_self
            have pa18 := pen_ext ex18 pa17
            have dT18 := dd_ext ex18 _ _ (dT s717)
            refine ⟨.str (tx g), rfl, x8, rfl, x15, rfl, ?_⟩
            refine ⟨.str (tx g), x8, x15, g, e1, e2 ++ [.k 1], rfl, hg, h1, hfar, .str _, dd_ext ex18 _ _ d8'', dd_ext ex18 _ _ d15, by rw [hft, hh]; omega, fun dd H19 s19 hd => ?_⟩
            refine ⟨rfl, dd, _, .str "length", .int (taken (e2 ++ [.k 1]) : Nat), rfl, hd, rfl, rfl, fun tt htt => ?_⟩
            have s20 := sm_new (o := .tup [V.str "NotKept", .str "length", .int (taken (e2 ++ [.k 1]) : Nat)]) htt
            have s18 := s19.trans s20
            have dtt : Dd K (upd H19 tt (.tup [V.str "NotKept", .str "length", .int (taken (e2 ++ [.k 1]) : Nat)])) (.ref tt) (.tuple [.str "NotKept", .str "length", .int (taken (e2 ++ [.k 1]) : Nat)]) := .tup (.of upd_same) (.cons (.str _) (.cons (.str _) (.cons (.int _) .nil)))
            generalize upd H19 tt (.tup [V.str "NotKept", .str "length", .int (taken (e2 ++ [.k 1]) : Nat)]) = H20 at s18 dtt
            refine (ev_tup (K := K) (ea_cons ev_str (ea_cons ev_str (ea_cons (ev_add (ev_lenS (ev_ixL (ds := TS.map sD) (d := sD t2) (i := 1) (ev_var (i := 4) rfl (dd_sm s18 _ _ dT18)) ev_int (atI_nat (j := 1) (by rw [List.getElem?_map, j2]; rfl))) (sz_of (by rw [← k2, hh]; omega))) ev_int) ea_nil))) (by show 3 ≤ sizeLine; decide)) H20 (.refl _) _ fun y21 H21 s21 d21 => ?_
            refine .inr ⟨_, _, dd_dp _ _ (dd_sm s21 _ _ dtt), dd_dp _ _ d21, shaped_nk _, shaped_nk _, ?_⟩
            refine ⟨_, rfl, ?_⟩
            have hev : (!PyData.eqv (.tuple [.str "NotKept", .str "length", .int (taken (e2 ++ [.k 1]) : Nat)]) (.tuple [.str "NotKept", .str "length", .int ((t2.length : Nat) + 1)])) = false := by
              rw [hft, k2]
              simp [PyData.eqv, PyData.eqvAll]
            rw [hev]
            refine iteF ?_
            refine ⟨_, _, _, _, _, _, _, _, _, _, _, _, _, _, rfl, ?_, ?_⟩
            · exact ((pa18.same s18).same s21).le (by omega)
            · exact (ht18.ext s18).ext s21
  · rintro σ' H2 ⟨z2, z3, z4, z5, z6, z7, z8, z9, z10, z11, z12, z13, z14, z15, rfl, pa, ht⟩
    exact q _
end
end K75


open PySem PySem.W PySem.Calls PyProof.Rows
theorem PySem.Challenge.cw_textways_k75_whole_edits_behind_edits_holds : PySem.Challenge.rw_textways_k75_whole_edits_behind_edits.Holds := by
  w_on; o_law
  refine HandSHeadRun.head_any (r := OpenLaw.row PySem.Challenge.rw_textways_k75_whole_edits_behind_edits) (q := view (OpenLaw.row PySem.Challenge.rw_textways_k75_whole_edits_behind_edits).prog [K75.lawAt]) (H := K75.hk) (ob := K75.ob) (M := 20000) (loose := K75.loose) (d := HandSHeadRun.topDef (OpenLaw.row PySem.Challenge.rw_textways_k75_whole_edits_behind_edits).prog K75.lawAt) (kwd := []) K75.ob_eq
    (by kernel_rfl) (fun s => by kernel_rfl) K75.run (by kernel_rfl) (by kernel_rfl) (by kernel_rfl) (by rfl) (by first | assumption | decide +kernel) (by decide +kernel) ⟨rfl, rfl, rfl, rfl, rfl, by decide +kernel⟩ ?hw ?hc
  case hw => w_witness2
  case hc =>
    refine LamX.walk_ofTsE (l := PySem.Challenge.rw_textways_k75_whole_edits_behind_edits) (n := 63) (k := 30) (x := "script") (CX := fun _ => L2.CX0) rfl (by decide) (by kernel_rfl) ⟨rfl, by decide, by decide⟩ ?F (fun _ _ _ _ _ z => z)
    intro w mg fa h Y G hmg0
    obtain ⟨K, KX, c⟩ := Y
    have hmg : mg ("law" : PySem.Str) = some (.ref fa) := by
      have e : (HandSHeadRun.topDef (OpenLaw.row PySem.Challenge.rw_textways_k75_whole_edits_behind_edits).prog K75.lawAt).name = ("law" : PySem.Str) := by kernel_rfl
      rw [← e]
      exact hmg0
    obtain ⟨fd, hb, hF⟩ := K75.facts (P := (PySem.Challenge.rw_textways_k75_whole_edits_behind_edits).prog) (w := w) (⟨⟨h, KX, G⟩, c.t.d, c.more⟩ : K75.Tx K mg) hmg
    refine ⟨K, KX, fd, K75.tf.map (He.cT K), K75.spLaw K, fun p hp => ?_, fun p hp => ?_, fun p hp => ?_, hb, fun H a ns hl _ hT hS => ⟨a, ns, rfl, hS, hl, hT _ (List.mem_map.mpr ⟨_, List.mem_cons_self, rfl⟩), fun _ => rfl⟩, hF⟩
    · obtain ⟨d, hd, rfl⟩ := List.mem_map.mp hp
      exact c.empty d hd
    · obtain ⟨d, hd, rfl⟩ := List.mem_map.mp hp
      exact c.out d hd
    · obtain ⟨d, hd, rfl⟩ := List.mem_map.mp hp
      exact PySem.W.codeHd_of_K KX (c.hd d hd)
