import PyProof.Rows.All
import Wide.All
import OpenK.AllK
import Wide.FinOn
import HandS.ForMost
import HandS.IsInst
import HandS.Deep
import HandS.Walk
import HandS.Conv
import HandS.NoneIn
import KE.KeyNested
import PySem.Challenge.RW_loopproof_k46_whole_changes
import KE.KExcSuper
import HandS.Exc
import HandS.ExcOwn
import HandS.WordsExc
import HandS.ExcSuper
import HandS.ForSpec
import PyProof.ReprRoads
import HandS.Lambda
import KE.KDflt
import HandS.EndTab
set_option Elab.async false
set_option linter.all false
set_option maxRecDepth 100000
set_option maxHeartbeats 4000000
/-! Base: nested data on the abstract heap; what stays when the heap grows. -/
namespace K46
open PySem PySem.Spec PyProof.Rows L2
def topS (i : Nat) : Stmt := PySem.Challenge.pw_loopproof_k46_whole_changes.main.body.getD i (.Pass ⟨0, 0, 0, 0⟩)
abbrev D := NestedKey
def txtOk (x : Str) : Bool := PyData.strOk x && decide (x.length ≤ 1000)
theorem txtOk.ok {x : Str} (h : txtOk x = true) : PyData.strOk x = true := (Bool.and_eq_true_iff.mp h).1
theorem txtOk.len {x : Str} (h : txtOk x = true) : x.length ≤ 1000 := of_decide_eq_true (Bool.and_eq_true_iff.mp h).2
mutual
inductive At (H : Hp) : D → V → Prop
  | none : At H .none .non
  | num (i : Int) : At H (.num i) (.int i)
  | text (x : Str) (ok : txtOk x = true) : At H (.text x) (.str x)
  | tup {a : Addr} {xs : List V} {ks : List D} : H a = some (.tup xs) → AtAll H ks xs → At H (.tup ks) (.ref a)
inductive AtAll (H : Hp) : List D → List V → Prop
  | nil : AtAll H [] []
  | cons {k : D} {ks : List D} {v : V} {vs : List V} : At H k v → AtAll H ks vs → AtAll H (k :: ks) (v :: vs)
end
/-- tuples stay -/
def TM (H H' : Hp) : Prop := ∀ a xs, H a = some (.tup xs) → H' a = some (.tup xs)
theorem TM.refl (H : Hp) : TM H H := fun _ _ h => h
theorem TM.trans {H H1 H2 : Hp} (a : TM H H1) (b : TM H1 H2) : TM H H2 := fun c o h => b c o (a c o h)
theorem TM.same {H H' : Hp} (e : Same H H') : TM H H' := fun a xs h => e a _ h
theorem TM.new {H : Hp} {p : Addr} {o : HO} (h : H p = none) : TM H (upd H p o) := fun a xs e => by
  rw [upd_ne (ne_of_none e h)]
  exact e
theorem TM.mut {H : Hp} {p : Addr} {o u : HO} (h : H p = some u) (hu : ∀ xs, u ≠ .tup xs) : TM H (upd H p o) := fun a xs e => by
  have : a ≠ p := fun z => by
    rw [z, h] at e
    exact hu xs (Option.some.inj e)
  rw [upd_ne this]
  exact e
theorem TM.lst {H : Hp} {p : Addr} {o : HO} {ys : List V} (h : H p = some (.lst ys)) : TM H (upd H p o) := TM.mut h fun xs z => nomatch z
mutual
theorem At.tm {H H' : Hp} (t : TM H H') : ∀ {k : D} {v : V}, At H k v → At H' k v
  | _, _, .none => .none
  | _, _, .num i => .num i
  | _, _, .text x o => .text x o
  | _, _, .tup h r => .tup (t _ _ h) (AtAll.tm t r)
theorem AtAll.tm {H H' : Hp} (t : TM H H') : ∀ {ks : List D} {vs : List V}, AtAll H ks vs → AtAll H' ks vs
  | _, _, .nil => .nil
  | _, _, .cons a b => .cons (At.tm t a) (AtAll.tm t b)
end
theorem AtAll.length {H : Hp} : ∀ {ks : List D} {vs : List V}, AtAll H ks vs → ks.length = vs.length
  | _, _, .nil => rfl
  | _, _, .cons _ r => by rw [List.length_cons, List.length_cons, AtAll.length r]
theorem AtAll.append {H : Hp} : ∀ {ks js : List D} {vs ws : List V}, AtAll H ks vs → AtAll H js ws → AtAll H (ks ++ js) (vs ++ ws)
  | _, _, _, _, .nil, s => s
  | _, _, _, _, .cons r t, s => .cons r (AtAll.append t s)
theorem AtAll.get {H : Hp} : ∀ {ks : List D} {vs : List V} {i : Nat} {v : V}, AtAll H ks vs → vs[i]? = some v → ∃ k, ks[i]? = some k ∧ At H k v
  | _, _, _, _, .nil, e => by simp at e
  | _, _, 0, _, .cons r _, e => by simp at e; subst e; exact ⟨_, rfl, r⟩
  | _, _, i + 1, v, .cons _ t, e => by
    obtain ⟨k, h1, h2⟩ := AtAll.get (i := i) (v := v) t (by simpa using e)
    exact ⟨k, by simpa using h1, h2⟩
theorem AtAll.get' {H : Hp} : ∀ {ks : List D} {vs : List V} {i : Nat} {k : D}, AtAll H ks vs → ks[i]? = some k → ∃ v, vs[i]? = some v ∧ At H k v
  | _, _, _, _, .nil, e => by simp at e
  | _, _, 0, _, .cons r _, e => by simp at e; subst e; exact ⟨_, rfl, r⟩
  | _, _, i + 1, v, .cons _ t, e => by
    obtain ⟨k, h1, h2⟩ := AtAll.get' (i := i) (k := v) t (by simpa using e)
    exact ⟨k, by simpa using h1, h2⟩
theorem AtAll.take {H : Hp} : ∀ {ks : List D} {vs : List V} (n : Nat), AtAll H ks vs → AtAll H (ks.take n) (vs.take n)
  | _, _, 0, _ => .nil
  | _, _, _ + 1, .nil => .nil
  | _, _, n + 1, .cons r t => .cons r (AtAll.take n t)
theorem AtAll.drop {H : Hp} : ∀ {ks : List D} {vs : List V} (n : Nat), AtAll H ks vs → AtAll H (ks.drop n) (vs.drop n)
  | _, _, 0, r => r
  | _, _, _ + 1, .nil => .nil
  | _, _, n + 1, .cons _ t => AtAll.drop n t
theorem AtAll.dropLast {H : Hp} {ks : List D} {vs : List V} (h : AtAll H ks vs) : AtAll H ks.dropLast vs.dropLast := by
  rw [List.dropLast_eq_take, List.dropLast_eq_take, h.length]
  exact h.take _
theorem AtAll.eraseIdx {H : Hp} : ∀ {ks : List D} {vs : List V} (n : Nat), AtAll H ks vs → AtAll H (ks.eraseIdx n) (vs.eraseIdx n)
  | _, _, _, .nil => .nil
  | _, _, 0, .cons _ t => t
  | _, _, n + 1, .cons r t => .cons r (AtAll.eraseIdx n t)
mutual
theorem At.dp {K : PySem.W.Frag} {H : Hp} : ∀ {k : D} {v : V}, At H k v → Dp K H v k.data
  | _, _, .none => .non
  | _, _, .num i => .int i
  | _, _, .text x _ => .str x
  | _, _, .tup h r => .tup (SqT.of h) (AtAll.dp r)
theorem AtAll.dp {K : PySem.W.Frag} {H : Hp} : ∀ {ks : List D} {vs : List V}, AtAll H ks vs → DpAll K H vs (NestedKey.datas ks)
  | _, _, .nil => .nil
  | _, _, .cons a b => .cons (At.dp a) (AtAll.dp b)
end
mutual
theorem eqv_data : ∀ a b : D, PyData.eqv a.data b.data = decide (a = b)
  | .none, b => by cases b <;> simp [NestedKey.data, PyData.eqv]
  | .num i, b => by
    cases b with
    | num j =>
      simp only [NestedKey.data, PyData.eqv]
      by_cases h : i = j
      · subst h; simp
      · have : (i == j) = false := beq_eq_false_iff_ne.mpr h
        rw [this, decide_eq_false (fun z => h (NestedKey.num.inj z))]
    | _ => simp [NestedKey.data, PyData.eqv]
  | .text x, b => by
    cases b with
    | text y =>
      simp only [NestedKey.data, PyData.eqv]
      by_cases h : x = y
      · subst h; simp
      · have : (x == y) = false := beq_eq_false_iff_ne.mpr h
        rw [this, decide_eq_false (fun z => h (NestedKey.text.inj z))]
    | _ => simp [NestedKey.data, PyData.eqv]
  | .tup ks, b => by
    cases b with
    | tup js =>
      simp only [NestedKey.data, PyData.eqv]
      rw [eqv_datas ks js]
      by_cases h : ks = js
      · subst h; simp
      · rw [decide_eq_false h, decide_eq_false (fun z => h (NestedKey.tup.inj z))]
    | _ => simp [NestedKey.data, PyData.eqv]
theorem eqv_datas : ∀ a b : List D, PyData.eqvAll (NestedKey.datas a) (NestedKey.datas b) = decide (a = b)
  | [], [] => by simp [NestedKey.datas, PyData.eqvAll]
  | [], _ :: _ => by simp [NestedKey.datas, PyData.eqvAll]
  | _ :: _, [] => by simp [NestedKey.datas, PyData.eqvAll]
  | a :: as, b :: bs => by
    simp only [NestedKey.datas, PyData.eqvAll]
    rw [eqv_data a b, eqv_datas as bs]
    by_cases h : a = b
    · by_cases h2 : as = bs
      · subst h h2; simp
      · simp [h, h2]
    · simp [h]
end
mutual
theorem data_lay {H : Hp} : ∀ {k : D} {v : V}, At H k v → (k.data).canLay0 = true
  | _, _, .none => by simp [NestedKey.data, PyData.canLay0]
  | _, _, .num i => by simp [NestedKey.data, PyData.canLay0]
  | _, _, .text x o => by simp [NestedKey.data, PyData.canLay0, txtOk.ok o]
  | _, _, .tup h r => by
    simp only [NestedKey.data, PyData.canLay0]
    exact datas_lay r
theorem datas_lay {H : Hp} : ∀ {ks : List D} {vs : List V}, AtAll H ks vs → PyData.canLayAll0 (NestedKey.datas ks) = true
  | _, _, .nil => by simp [NestedKey.datas, PyData.canLayAll0]
  | _, _, .cons a b => by simp [NestedKey.datas, PyData.canLayAll0, data_lay a, datas_lay b]
end
mutual
theorem data_depth : ∀ k : D, (k.data).depth = k.depth
  | .none => by simp [NestedKey.data, PyData.depth, NestedKey.depth]
  | .num i => by simp [NestedKey.data, PyData.depth, NestedKey.depth]
  | .text x => by simp [NestedKey.data, PyData.depth, NestedKey.depth]
  | .tup ks => by
    simp only [NestedKey.data, PyData.depth, NestedKey.depth]
    rw [datas_depth ks]
theorem datas_depth : ∀ ks : List D, PyData.depthAll (NestedKey.datas ks) = NestedKey.depthAll ks
  | [] => by simp [NestedKey.datas, PyData.depthAll, NestedKey.depthAll]
  | k :: ks => by simp [NestedKey.datas, PyData.depthAll, NestedKey.depthAll, data_depth k, datas_depth ks]
end
theorem At.shaped {H : Hp} {k : D} {v : V} (a : At H k v) (h : k.depth ≤ 64) : SeqAt.shaped k.data = true := by
  show (k.data.canLay0 && decide (k.data.depth ≤ 64)) = true
  rw [Bool.and_eq_true]
  exact ⟨data_lay a, decide_eq_true (by rw [data_depth]; exact h)⟩
theorem AtAll.shaped {H : Hp} {ks : List D} {vs : List V} (a : AtAll H ks vs) (h : NestedKey.depthAll ks ≤ 60) : SeqAt.shaped (.list (NestedKey.datas ks)) = true := by
  show (PyData.canLay0 (.list (NestedKey.datas ks)) && decide (PyData.depth (.list (NestedKey.datas ks)) ≤ 64)) = true
  rw [Bool.and_eq_true]
  refine ⟨by simp only [PyData.canLay0]; exact datas_lay a, decide_eq_true ?_⟩
  simp only [PyData.depth]
  rw [datas_depth]
  omega
end K46

set_option Elab.async false
set_option linter.all false
set_option maxRecDepth 100000
set_option maxHeartbeats 4000000
/-! trees.py: heads, parts. -/
namespace K46
open PySem PySem.Spec PyProof.Rows L2
abbrev sIsName : Stmt := topS 8
abbrev sIsHead : Stmt := topS 10
abbrev sTestParts : Stmt := topS 11
/-- what the module's names hold: the built-ins are untouched -/
structure Blt (mg : Str → Option Value) : Prop where
  isi : mg "isinstance" = none
  tup : mg "tuple" = none
  str : mg "str" = none
  int : mg "int" = none
  bool : mg "bool" = none
  len : mg "len" = none
  all : mg "all" = none
  list : mg "list" = none
  range : mg "range" = none
  repr : mg "repr" = none
/-! ### the mathematics -/
def headIs (hs : List Str) (n : Nat) : D → Bool
  | .tup (.text h :: r) => decide (r.length + 1 = n) && hs.contains h
  | _ => false
def isTup : D → Bool
  | .tup _ => true
  | _ => false
def isTxt : D → Bool
  | .text _ => true
  | _ => false
/-! ### is_head -/
def spHead : Sp := fun vs H Q _ => ∃ (d : D) (v : V) (a : Addr) (hs : List Str) (n : Nat), vs = [v, .ref a, .int n] ∧ At H d v ∧ H a = some (.tup (hs.map V.str)) ∧ 1 ≤ n ∧ Q (.bl (headIs hs n d)) H
theorem inV_strs (h : Str) : ∀ hs : List Str, inV (.str h) (hs.map V.str) = hs.contains h
  | [] => rfl
  | x :: r => by
    have ih := inV_strs h r
    unfold inV at ih ⊢
    rw [List.map_cons, List.any_cons, ih, List.contains_cons]
    show ((x == h) || r.contains h) = ((h == x) || r.contains h)
    congr 1
    by_cases e : x = h
    · subst e; rfl
    · rw [beq_eq_false_iff_ne.mpr e, beq_eq_false_iff_ne.mpr (Ne.symm e)]
theorem flat_strs : ∀ hs : List Str, (hs.map V.str).all flatV = true
  | [] => rfl
  | x :: r => by
    rw [List.map_cons, List.all_cons, flat_strs r]
    rfl
section
variable {P : Program} {w : World} {K : PySem.W.Frag} {mg : Str → Option Value} {base : Heap}
theorem At.ty {H : Hp} {d : D} {v : V} (h : At H d v) : ∃ t : String, TyX K H v (.type t) ∧ kitB t "tuple" = some (isTup d) ∧ kitB t "str" = some (isTxt d) := by
  cases h with
  | none => exact ⟨_, .base .non, (by decide +kernel : kitB "NoneType" "tuple" = some false), (by decide +kernel : kitB "NoneType" "str" = some false)⟩
  | num i => exact ⟨_, .base (.int i), (by decide +kernel : kitB "int" "tuple" = some false), (by decide +kernel : kitB "int" "str" = some false)⟩
  | text x _ => exact ⟨_, .base (.str x), (by decide +kernel : kitB "str" "tuple" = some false), (by decide +kernel : kitB "str" "str" = some true)⟩
  | tup e r => exact ⟨_, .base (.tup e), (by decide +kernel : kitB "tuple" "tuple" = some true), (by decide +kernel : kitB "tuple" "str" = some false)⟩
theorem scH : FnScope ["value", "heads", "length"] ["value", "heads", "length"] (defScope sIsHead) := ⟨rfl, rfl, rfl, by decide +kernel, rfl, by decide +kernel, by decide +kernel⟩
theorem ok_head {f : Addr} {fd : FuncData} (F : Fun K "is_head" "is_head" sIsHead f fd) (B : Blt mg) : FnOk P w K mg base CX0 1 f fd ["value", "heads", "length"] spHead := by
  refine F.ok scH (fun vs H Q E h => ?_) (fun cdv A outer s H vs Q E hr h => ?_)
  · obtain ⟨d, v, a, hs, n, rfl, _⟩ := h
    rfl
  · obtain ⟨d, v, a, hs, n, rfl, hd, ha, hn, q⟩ := h
    refine ⟨_, pss_one (ps_ret (pe_and (pe_callB call_isi (by rfl) B.isi (by decide +kernel) (pa_cons (pv 0) (pa_cons (pe_bltn (v := .ty "tuple") (by rfl) B.tup (by decide +kernel) rfl) pa_nil)))
      (pe_and (pe_cmpR op_eq (pe_callB call_len_seq (by rfl) B.len PySem.boot_len (pa_cons (pv 0) pa_nil)) (pv 2) (nomark _))
      (pe_and (pe_callB call_isi (by rfl) B.isi (by decide +kernel) (pa_cons (pe_ix ix_tup (pv 0) pe_int (fun _ _ => rfl)) (pa_cons (pe_bltn (v := .ty "str") (by rfl) B.str (by decide +kernel) rfl) pa_nil)))
      (pe_one (pe_cmpR op_in_seq (pe_ix ix_tup (pv 0) pe_int (fun _ _ => rfl)) (pv 1) (by rfl))))))), ?_⟩
    obtain ⟨t, ht, h1, h2⟩ := hd.ty (K := K)
    refine ⟨v, rfl, v, .ty "tuple", _, .type "tuple", _, rfl, .ty _, ht, kit_ty h1, _, rfl, ?_⟩
    cases hd with
    | none => exact iteF q
    | num i => exact iteF q
    | text x _ => exact iteF q
    | @tup p xs ks e r =>
      refine iteT ?_
      have el := r.length
      refine ⟨_, rfl, p, xs, rfl, .inr (SqT.of e), _, rfl, rfl, _, rfl, ?_⟩
      refine ite2 (fun c => ?_) (fun c => ?_)
      · have c' : (xs.length : Int) = (n : Int) := V.int.inj (of_decide_eq_true c)
        cases r with
        | nil =>
          simp only [List.length_nil] at c'
          omega
        | @cons k ks v0 vs0 a0 r0 =>
          obtain ⟨t0, ht0, _, h20⟩ := a0.ty (K := K)
          refine ⟨_, rfl, p, _, 0, v0, rfl, rfl, SqT.of e, atI_nat (j := 0) rfl, v0, .ty "str", _, .type "str", _, rfl, .ty _, ht0, kit_ty h20, _, rfl, ?_⟩
          simp only [List.length_cons] at c' el
          cases a0 with
          | none => exact iteF q
          | num i => exact iteF q
          | tup e' r' => exact iteF q
          | text x _ =>
            refine iteT ?_
            refine ⟨_, rfl, p, _, 0, .str x, rfl, rfl, SqT.of e, atI_nat (j := 0) rfl, _, rfl, a, hs.map V.str, rfl, .inr (SqT.of ha), rfl, flat_strs hs, ?_⟩
            have eq : headIs hs n (.tup (.text x :: ks)) = inV (.str x) (hs.map V.str) := by
              rw [inV_strs]
              show (decide (ks.length + 1 = n) && hs.contains x) = hs.contains x
              rw [decide_eq_true (by omega), Bool.true_and]
            rw [eq] at q
            exact q
      · have c' : ¬ (xs.length : Int) = (n : Int) := fun z => c (decide_eq_true (by rw [z]))
        have eq : headIs hs n (.tup ks) = false := by
          cases ks with
          | nil => rfl
          | cons k r' =>
            cases k with
            | text x =>
              show (decide (r'.length + 1 = n) && hs.contains x) = false
              simp only [List.length_cons] at el
              rw [decide_eq_false (by omega), Bool.false_and]
            | _ => rfl
        rw [eq] at q
        exact q
end
end K46

set_option Elab.async false
set_option linter.all false
set_option maxRecDepth 100000
set_option maxHeartbeats 4000000
/-! names.py: is_name. -/
namespace K46
open PySem PySem.Spec PyProof.Rows L2
def tSmall : Str := "abcdefghijklmnopqrstuvwxyz"
def tFigures : Str := "0123456789"
def tWords : List Str := ["tests", "deeds", "given", "shows", "never", "keeps", "leaves", "skip", "stop", "assume", "if", "then", "else", "end", "while", "do", "repeat", "until", "choose", "loop", "not", "and", "or", "true", "false"]
def isLet (c : Nat) : Bool := decide (c ∈ tSmall.cps.toList)
def isFig (c : Nat) : Bool := decide (c ∈ tFigures.cps.toList)
def nameOk (x : Str) : Bool := decide (1 ≤ x.length) && decide (x.length ≤ 8) && (match x.cps.toList with
  | c :: _ => isLet c
  | [] => false) && !(tWords.contains x) && x.cps.toList.all fun c => isLet c || isFig c
def isName : D → Bool
  | .text x => nameOk x
  | _ => false
/-- the module's constants -/
structure Con (K : PySem.W.Frag) (mg : Str → Option Value) : Prop where
  small : ∃ t, mg "SMALL" = some (.str tSmall t)
  figures : ∃ t, mg "FIGURES" = some (.str tFigures t)
  longest : ∃ t, mg "LONGEST" = some (.int 8 t)
  words : ∃ a, mg "WORDS" = some (.ref a) ∧ ∀ H, SqT K H a (tWords.map V.str)
def spName : Sp := fun vs H Q _ => ∃ (d : D) (v : V), vs = [v] ∧ At H d v ∧ ∀ H', Same H H' → Q (.bl (isName d)) H'
theorem str_len (x : Str) : (x.length : Nat) = x.cps.toList.length := by
  show x.cps.size = _
  simp
theorem ite_bl {b : Bool} {A B : Prop} (h1 : b = true → A) (h2 : b = false → B) : if b = true then A else B := by
  cases b with
  | true => exact iteT (h1 rfl)
  | false => exact iteF (h2 rfl)
theorem same_new {H : Hp} {p : Addr} {o : HO} (h : H p = none) : Same H (upd H p o) := fun b x e => by
  rw [upd_ne (ne_of_none e h)]
  exact e
/-- an own new object changes -/
theorem same_mut {H H' : Hp} {p : Addr} {o : HO} (e : Same H H') (h : H p = none) : Same H (upd H' p o) := fun a u ha => by
  rw [upd_ne (ne_of_none ha h)]
  exact e a u ha
theorem take_more {α : Type} : ∀ {l : List α} {i : Nat} {x : α}, l[i]? = some x → l.take (i + 1) = l.take i ++ [x]
  | [], i, x, h => by simp at h
  | a :: l, 0, x, h => by
    have e : a = x := Option.some.inj h
    subst e
    rfl
  | a :: l, i + 1, x, h => by
    have ih := take_more (l := l) (i := i) (x := x) h
    show a :: l.take (i + 1) = a :: l.take i ++ [x]
    rw [ih]
    rfl
section
variable {P : Program} {w : World} {K : PySem.W.Frag} {mg : Str → Option Value} {base : Heap}
theorem scN : FnScope ["value", "sign"] ["value"] (defScope sIsName) := ⟨rfl, rfl, rfl, by decide +kernel, rfl, by decide +kernel, by decide +kernel⟩
theorem ok_name {f : Addr} {fd : FuncData} (F : Fun K "is_name" "is_name" sIsName f fd) (B : Blt mg) (C : Con K mg) : FnOk P w K mg base CX0 1 f fd ["value"] spName := by
  obtain ⟨tS, cS⟩ := C.small
  obtain ⟨tF, cF⟩ := C.figures
  obtain ⟨tL, cL⟩ := C.longest
  obtain ⟨aW, cW, hW⟩ := C.words
  refine F.ok scN (fun vs H Q E h => ?_) (fun cdv A outer s H vs Q E hr h => ?_)
  · obtain ⟨d, v, rfl, _⟩ := h
    rfl
  · obtain ⟨d, v, rfl, hd, q⟩ := h
    refine ⟨_, pss_cons (ps_if (PW.pt (pw_or (pt_not (pt_val (pe_callB call_isi (by rfl) B.isi (by decide +kernel) (pa_cons (pv 0) (pa_cons (pe_bltn (v := .ty "str") (by rfl) B.str (by decide +kernel) rfl) pa_nil)))))
        (pw_or (pt_not (pt_chain op_le op_le pe_int (pe_callB call_len_str (by rfl) B.len PySem.boot_len (pa_cons (pv 0) pa_nil)) (pe_glob (v := .int 8) rfl cL ⟨_, rfl⟩)))
        (pw_or (pt_cmpR op_notIn_sign (pe_ix ix_str (pv 0) pe_int (fun _ _ => rfl)) (pe_glob (v := .str tSmall) rfl cS ⟨_, rfl⟩) (by rfl))
        (pw_or1 (pt_cmpR op_in_seq (pv 0) (pe_glob (v := .ref aW) rfl cW rfl) (by rfl)))))))
        (pss_one (ps_ret pe_bl)) pss_nil)
      (pss_one (ps_ret (pe_callB (cr_all rfl) (by rfl) B.all (by decide +kernel) (pa_cons
        (pe_lc (own := [("sign", 1)]) (g := gName 1) (tt := tYes) rfl scN.nd (pi_str (pv 0)) (blkOk_by (N := ["value", "sign"]) (sc := defScope sIsName) (by decide +kernel)) (fun _ _ _ _ _ => pg_name (i := 1) scN.nd rfl (Or.inl rfl)) (fun _ _ _ _ _ => pts_nil)
          (fun _ _ _ _ _ => pe_or (pe_cmpR op_in_sign (pv 1) (pe_glob (v := .str tSmall) rfl cS ⟨_, rfl⟩) (by rfl)) (pe_one (pe_cmpR op_in_sign (pv 1) (pe_glob (v := .str tFigures) rfl cF ⟨_, rfl⟩) (by rfl))))) pa_nil)))), ?_⟩
    obtain ⟨t, ht, h1, h2⟩ := hd.ty (K := K)
    refine ⟨v, rfl, v, .ty "str", _, .type "str", _, rfl, .ty _, ht, kit_ty h2, _, rfl, ?_⟩
    cases hd with
    | none => exact iteT (iteT (q H (Same.refl H)))
    | num i => exact iteT (iteT (q H (Same.refl H)))
    | tup e r => exact iteT (iteT (q H (Same.refl H)))
    | text x o =>
      refine iteF ?_
      have lx := txtOk.len o
      have lz : x.length ≤ sizeLine := Nat.le_of_lt (small1000 lx)
      have go : ∀ {b : Bool} {H' : Hp}, nameOk x = b → Same H H' → Q (.bl b) H' := fun {b H'} e sm => by
        have z := q H' sm
        rw [show isName (.text x) = b from e] at z
        exact z
      have ln : (x.length : Nat) = x.cps.toList.length := str_len x
      refine ⟨_, rfl, x, rfl, lz, 1, _, rfl, rfl, _, rfl, ?_⟩
      refine ite2 (fun c => ?_) (fun c => ?_)
      rotate_left
      · refine ⟨_, rfl, iteT (iteT (go ?_ (Same.refl H)))⟩
        have c1 : decide (1 ≤ x.length) = false := decide_eq_false fun z => c (decide_eq_true (by omega))
        unfold nameOk
        rw [c1]
        rfl
      have c1 : decide (1 ≤ x.length) = true := decide_eq_true (by have := of_decide_eq_true c; omega)
      refine ⟨_, _, rfl, rfl, _, rfl, ?_⟩
      have d8 : decide ((x.length : Int) ≤ 8) = decide (x.length ≤ 8) := by
        rw [Bool.eq_iff_iff]
        simp only [decide_eq_true_eq]
        omega
      show if (!(decide ((x.length : Int) ≤ 8))) = true then _ else _
      rw [d8]
      cases c8 : decide (x.length ≤ 8) with
      | false =>
        refine iteT (iteT (go ?_ (Same.refl H)))
        unfold nameOk
        rw [c1, c8]
        rfl
      | true =>
      refine iteF ?_
      cases hx : x.cps.toList with
      | nil =>
        have := of_decide_eq_true c1
        rw [ln, hx] at this
        exact absurd this (by decide)
      | cons ch rest =>
      refine ⟨_, rfl, x, 0, ch, rfl, rfl, lz, by rw [hx]; exact atI_nat (j := 0) rfl, ch, tSmall, rfl, rfl, _, rfl, ?_⟩
      show if (!(isLet ch)) = true then _ else _
      cases cl : isLet ch with
      | false =>
        refine iteT (iteT (go ?_ (Same.refl H)))
        unfold nameOk
        rw [c1, c8, hx]
        simp only [cl]
        rfl
      | true =>
      refine iteF ?_
      refine ⟨_, rfl, aW, tWords.map V.str, rfl, .inr (hW H), rfl, flat_strs tWords, _, rfl, ?_⟩
      show if (inV (.str x) (tWords.map V.str)) = true then _ else _
      rw [inV_strs]
      cases cw : tWords.contains x with
      | true =>
        refine iteT (go ?_ (Same.refl H))
        unfold nameOk
        rw [c1, c8, hx]
        simp only [cl, cw]
        rfl
      | false =>
      refine iteF ?_
      -- all([..])
      refine ⟨_, rfl, x, rfl, fun Dl nD => ?_⟩
      refine lc_it walk_str (fun i H' => Same H H' ∧ H' Dl = some (.lst (((x.cps.toList.take i).map fun c => isLet c || isFig c).map V.bl))) ⟨same_new nD, upd_same⟩ (fun _ _ _ _ => trivial) ?_ ?_
      · rintro i v H1 H2 hi ⟨sm, hD⟩ ⟨rfl, c, hc, rfl⟩
        have hc' : x.cps.toList[i]? = some c := by simpa using hc
        have nx : Same H (upd H2 Dl (.lst (((x.cps.toList.take i).map fun c => isLet c || isFig c).map V.bl ++ [V.bl (isLet c || isFig c)]))) := same_mut sm nD
        have ap : ((x.cps.toList.take (i + 1)).map fun c => isLet c || isFig c).map V.bl = ((x.cps.toList.take i).map fun c => isLet c || isFig c).map V.bl ++ [V.bl (isLet c || isFig c)] := by
          rw [take_more hc', List.map_append, List.map_append]
          rfl
        have sz : (((x.cps.toList.take i).map fun c => isLet c || isFig c).map V.bl).length < sizeLine := by
          rw [List.length_map, List.length_map, List.length_take]
          exact small1000 (Nat.le_trans (Nat.min_le_right _ _) (by rw [← ln]; exact lx))
        refine ⟨rfl, ?_⟩
        refine ⟨_, rfl, c, tSmall, rfl, rfl, _, rfl, ?_⟩
        show if isLet c = true then _ else _
        cases e1 : isLet c with
        | true =>
          rw [e1] at nx ap
          exact iteT ⟨_, hD, sz, nx, by rw [upd_same, ap]; rfl⟩
        | false =>
          rw [e1] at nx ap
          refine iteF ⟨_, rfl, c, tFigures, rfl, rfl, _, hD, sz, nx, ?_⟩
          rw [upd_same, ap]
          rfl
      · intro H' ⟨sm, hD⟩
        refine ⟨Dl, (x.cps.toList.map fun c => isLet c || isFig c), rfl, SqL.of ?_, go ?_ sm⟩
        · have e : x.cps.toList.take x.cps.size = x.cps.toList := List.take_of_length_le (by simp)
          rw [e] at hD
          exact hD
        · unfold nameOk
          rw [c1, c8, hx]
          simp only [cl, cw, List.all_map]
          rfl
end
end K46

set_option Elab.async false
set_option linter.all false
set_option maxRecDepth 100000
set_option maxHeartbeats 4000000
/-! trees.py: test_parts, is_test, program_parts, is_program. -/
namespace K46
open PySem PySem.Spec PyProof.Rows L2
abbrev sIsTest : Stmt := topS 12
abbrev sProgParts : Stmt := topS 13
abbrev sIsProg : Stmt := topS 14
/-! ### the mathematics -/
def nth (d : D) (i : Nat) : D := match d with
  | .tup ks => ks.getD i .none
  | _ => .none
def tparts (d : D) : Option (List D) :=
  if headIs ["true", "false"] 1 d = true then some [] else
  if headIs ["name"] 2 d = true then (if isName (nth d 1) = true then some [] else none) else
  if headIs ["not"] 2 d = true then some [nth d 1] else
  if headIs ["and", "or"] 3 d = true then some [nth d 1, nth d 2] else none
theorem head_of {hs : List Str} {n : Nat} {d : D} (h : headIs hs n d = true) : ∃ x r, d = .tup (.text x :: r) ∧ r.length + 1 = n ∧ hs.contains x = true := by
  unfold headIs at h
  split at h
  · rename_i x r
    rw [Bool.and_eq_true] at h
    exact ⟨x, r, rfl, of_decide_eq_true h.1, h.2⟩
  · cases h
theorem At.item {H : Hp} {d : D} {v : V} {hs : List Str} {n : Nat} (a : At H d v) (h : headIs hs n d = true) (i : Nat) (hi : i < n) :
    ∃ p xs u, v = .ref p ∧ H p = some (.tup xs) ∧ xs.length = n ∧ xs[i]? = some u ∧ At H (nth d i) u := by
  obtain ⟨x, r, rfl, hl, _⟩ := head_of h
  cases a with
  | @tup p xs ks e q =>
    have el := q.length
    have hlt : i < (NestedKey.text x :: r : List D).length := by
      rw [List.length_cons]
      omega
    obtain ⟨u, h1, h2⟩ := q.get' (i := i) (List.getElem?_eq_getElem hlt)
    refine ⟨p, xs, u, rfl, e, by rw [← el, List.length_cons, hl], h1, ?_⟩
    have e2 : nth (.tup (.text x :: r)) i = (NestedKey.text x :: r : List D)[i] := by
      show (NestedKey.text x :: r : List D).getD i .none = _
      rw [List.getD_eq_getElem?_getD, List.getElem?_eq_getElem hlt]
      rfl
    rw [e2]
    exact h2
/-! ### what reading a call of is_head, of is_name asks -/
def tHs : List Str → TA
  | [] => tNil
  | h :: r => tCons (tC (.str h)) (tHs r)
theorem rd_hs {σ : L2.St} {H : Hp} : ∀ (hs : List Str) (Q : List V → Hp → Prop), Q (hs.map V.str) H → tHs hs σ H Q
  | [], Q, q => q
  | h :: r, Q, q => rd_hs r (fun xs H2 => Q (.str h :: xs) H2) q
theorem rd_head {σ : L2.St} {H : Hp} {E : XK} {Q : VK} {d : D} {v : V} {i : Nat} (hs : List Str) (n : Nat) (h1 : 1 ≤ n) (hl : hs.length ≤ 1000) (hv : σ[i]? = some (some v)) (hd : At H d v) (k : ∀ H', Same H H' → Q (.bl (headIs hs n d)) H') :
    tCall spHead [] E (tCons (tVar i) (tCons (tTup (tHs hs)) (tCons (tC (.int (n : Int))) tNil))) σ H Q := by
  refine ⟨v, hv, ?_⟩
  refine rd_hs hs _ ⟨?_, fun p hp => ?_⟩
  · rw [List.length_map]
    exact Nat.le_of_lt (small1000 hl)
  · exact ⟨d, v, p, hs, n, rfl, hd.tm (TM.new hp), upd_same, h1, k _ (same_new hp)⟩
section
variable {P : Program} {w : World} {K : PySem.W.Frag} {mg : Str → Option Value} {base : Heap}
/-- a new list of what is told, or None -/
def spTParts : Sp := fun vs H Q _ => ∃ (d : D) (v : V), vs = [v] ∧ At H d v ∧ (tparts d = none → ∀ H', Same H H' → Q .non H') ∧
  (∀ ks, tparts d = some ks → ∀ H' p us, Same H H' → H p = none → H' p = some (.lst us) → AtAll H' ks us → Q (.ref p) H')
theorem scTP : FnScope ["value"] ["value"] (defScope sTestParts) := ⟨rfl, rfl, rfl, by decide +kernel, rfl, by decide +kernel, by decide +kernel⟩
theorem ok_tparts {f fH fN : Addr} {fd fdH fdN : FuncData} (F : Fun K "test_parts" "test_parts" sTestParts f fd) (FH : Fun K "is_head" "is_head" sIsHead fH fdH) (FN : Fun K "is_name" "is_name" sIsName fN fdN) (B : Blt mg) (C : Con K mg)
    (gH : mg "is_head" = some (.ref fH)) (gN : mg "is_name" = some (.ref fN)) (bH : Binds K fdH ["value", "heads", "length"] []) (bN : Binds K fdN ["value"] []) : FnOk P w K mg base CX0 2 f fd ["value"] spTParts := by
  have GH : FnOk P w K mg base CX0 1 fH fdH ["value", "heads", "length"] spHead := ok_head FH B
  have GN : FnOk P w K mg base CX0 1 fN fdN ["value"] spName := ok_name FN B C
  refine F.ok scTP (fun vs H Q E h => ?_) (fun cdv A outer s H vs Q E hr h => ?_)
  · obtain ⟨d, v, rfl, _⟩ := h
    rfl
  · obtain ⟨d, v, rfl, hd, kN, kS⟩ := h
    refine ⟨_, pss_cons (ps_if (pt_val (pe_call GH hr (by rfl) gH FH.kp bH .nil pass0 (pa_cons (pv 0) (pa_cons (pe_tup (pa_cons pe_str (pa_cons pe_str pa_nil))) (pa_cons pe_int pa_nil))))) (pss_one (ps_ret (pe_lst pa_nil))) pss_nil)
      (pss_cons (ps_if (pt_val (pe_call GH hr (by rfl) gH FH.kp bH .nil pass0 (pa_cons (pv 0) (pa_cons (pe_tup (pa_cons pe_str pa_nil)) (pa_cons pe_int pa_nil)))))
        (pss_one (ps_ret (pe_ifExp (pt_val (pe_call GN hr (by rfl) gN FN.kp bN .nil pass0 (pa_cons (pe_ix ix_tup (pv 0) pe_int (fun _ _ => rfl)) pa_nil))) (pe_lst pa_nil) pe_non))) pss_nil)
      (pss_cons (ps_if (pt_val (pe_call GH hr (by rfl) gH FH.kp bH .nil pass0 (pa_cons (pv 0) (pa_cons (pe_tup (pa_cons pe_str pa_nil)) (pa_cons pe_int pa_nil)))))
        (pss_one (ps_ret (pe_lst (pa_cons (pe_ix ix_tup (pv 0) pe_int (fun _ _ => rfl)) pa_nil)))) pss_nil)
      (pss_one (ps_ret (pe_ifExp (pt_val (pe_call GH hr (by rfl) gH FH.kp bH .nil pass0 (pa_cons (pv 0) (pa_cons (pe_tup (pa_cons pe_str (pa_cons pe_str pa_nil))) (pa_cons pe_int pa_nil)))))
        (pe_lst (pa_cons (pe_ix ix_tup (pv 0) pe_int (fun _ _ => rfl)) (pa_cons (pe_ix ix_tup (pv 0) pe_int (fun _ _ => rfl)) pa_nil))) pe_non))))), ?_⟩
    have nl : ∀ {H' : Hp} {ks : List D} {us : List V}, Same H H' → tparts d = some ks → us.length ≤ 1000 → AtAll H' ks us → us.length ≤ sizeLine ∧ ∀ p, H' p = none → Q (.ref p) (upd H' p (.lst us)) := fun {H' ks us} sm e hu ha =>
      ⟨Nat.le_of_lt (small1000 hu), fun p hp => kS ks e _ p us (sm.trans (same_new hp)) (sm.free hp) upd_same (ha.tm (TM.new hp))⟩
    refine rd_head (v := v) (i := 0) ["true", "false"] 1 (by decide) (by decide) rfl hd (fun H1 s1 => ?_)
    refine ⟨_, rfl, ?_⟩
    refine ite_bl (fun c1 => ?_) (fun c1 => ?_)
    · exact nl (us := []) s1 (by unfold tparts; rw [if_pos c1]) (by decide) .nil
    refine rd_head (v := v) (i := 0) ["name"] 2 (by decide) (by decide) rfl (hd.tm (TM.same s1)) (fun H2 s2 => ?_)
    refine ⟨_, rfl, ?_⟩
    have s12 := s1.trans s2
    have c1' : ¬ headIs ["true", "false"] 1 d = true := by rw [c1]; exact Bool.false_ne_true
    refine ite_bl (fun c2 => ?_) (fun c2 => ?_)
    · obtain ⟨p, xs, u, rfl, hp, hl, hu, hdu⟩ := (hd.tm (TM.same s12)).item c2 1 (by decide)
      refine ⟨_, rfl, p, xs, 1, u, rfl, rfl, SqT.of hp, atI_nat (j := 1) hu, nth d 1, u, rfl, hdu, fun H3 s3 => ⟨_, rfl, ?_⟩⟩
      have s13 := s12.trans s3
      refine ite_bl (fun c3 => ?_) (fun c3 => ?_)
      · exact nl (us := []) s13 (by unfold tparts; rw [if_neg c1', if_pos c2, if_pos c3]) (by decide) .nil
      · exact kN (by unfold tparts; rw [if_neg c1', if_pos c2, if_neg (by rw [c3]; exact Bool.false_ne_true)]) H3 s13
    refine rd_head (v := v) (i := 0) ["not"] 2 (by decide) (by decide) rfl (hd.tm (TM.same s12)) (fun H3 s3 => ?_)
    refine ⟨_, rfl, ?_⟩
    have s13 := s12.trans s3
    have c2' : ¬ headIs ["name"] 2 d = true := by rw [c2]; exact Bool.false_ne_true
    refine ite_bl (fun c3 => ?_) (fun c3 => ?_)
    · obtain ⟨p, xs, u, rfl, hp, hl, hu, hdu⟩ := (hd.tm (TM.same s13)).item c3 1 (by decide)
      refine ⟨_, rfl, p, xs, 1, u, rfl, rfl, SqT.of hp, atI_nat (j := 1) hu, ?_⟩
      exact nl (us := [u]) s13 (by unfold tparts; rw [if_neg c1', if_neg c2', if_pos c3]) (by show 1 ≤ 1000; decide) (.cons hdu .nil)
    refine rd_head (v := v) (i := 0) ["and", "or"] 3 (by decide) (by decide) rfl (hd.tm (TM.same s13)) (fun H4 s4 => ?_)
    refine ⟨_, rfl, ?_⟩
    have s14 := s13.trans s4
    have c3' : ¬ headIs ["not"] 2 d = true := by rw [c3]; exact Bool.false_ne_true
    refine ite_bl (fun c4 => ?_) (fun c4 => ?_)
    · obtain ⟨p, xs, u, rfl, hp, hl, hu, hdu⟩ := (hd.tm (TM.same s14)).item c4 1 (by decide)
      obtain ⟨p', xs', u', ev, hp', _, hu', hdu'⟩ := (hd.tm (TM.same s14)).item c4 2 (by decide)
      cases ev
      rw [hp] at hp'
      cases hp'
      refine ⟨_, rfl, p, xs, 1, u, rfl, rfl, SqT.of hp, atI_nat (j := 1) hu, _, rfl, p, xs, 2, u', rfl, rfl, SqT.of hp, atI_nat (j := 2) hu', ?_⟩
      exact nl (us := [u, u']) s14 (by unfold tparts; rw [if_neg c1', if_neg c2', if_neg c3', if_pos c4]) (by show 2 ≤ 1000; decide) (.cons hdu (.cons hdu' .nil))
    · exact kN (by unfold tparts; rw [if_neg c1', if_neg c2', if_neg c3', if_neg (by rw [c4]; exact Bool.false_ne_true)]) H4 s14
end
end K46

set_option Elab.async false
set_option linter.all false
set_option maxRecDepth 100000
set_option maxHeartbeats 4000000
/-! trees.py: is_test, program_parts, is_program. -/
namespace K46
open PySem PySem.Spec PyProof.Rows L2
/-! ### the mathematics -/
mutual
/-- how many nodes -/
def sz : D → Nat
  | .tup ks => szs ks + 1
  | _ => 1
def szs : List D → Nat
  | [] => 0
  | k :: ks => sz k + szs ks
end
theorem sz_pos : ∀ d : D, 1 ≤ sz d
  | .none => by simp [sz]
  | .num _ => by simp [sz]
  | .text _ => by simp [sz]
  | .tup _ => by simp [sz]
theorem szs_append : ∀ a b : List D, szs (a ++ b) = szs a + szs b
  | [], b => by simp [szs]
  | x :: a, b => by
    rw [List.cons_append, szs, szs, szs_append a b]
    omega
theorem len_szs : ∀ a : List D, a.length ≤ szs a
  | [] => by simp
  | x :: a => by
    have := len_szs a
    have := sz_pos x
    rw [List.length_cons, szs]
    omega
theorem sz_head2 {hs : List Str} {n : Nat} {d : D} (h : headIs hs n d = true) (h2 : 2 ≤ n) : sz (nth d 1) + 2 ≤ sz d := by
  obtain ⟨x, r, rfl, hl, _⟩ := head_of h
  match r, hl with
  | a :: r', _ =>
    show sz a + 2 ≤ sz (.tup (.text x :: a :: r'))
    simp only [sz, szs]
    omega
  | [], hl =>
    simp only [List.length_nil] at hl
    omega
theorem sz_head3 {hs : List Str} {n : Nat} {d : D} (h : headIs hs n d = true) (h3 : 3 ≤ n) : sz (nth d 1) + sz (nth d 2) + 2 ≤ sz d := by
  obtain ⟨x, r, rfl, hl, _⟩ := head_of h
  match r, hl with
  | a :: b :: r', _ =>
    show sz a + sz b + 2 ≤ sz (.tup (.text x :: a :: b :: r'))
    simp only [sz, szs]
    omega
  | [a], hl =>
    simp only [List.length_cons, List.length_nil] at hl
    omega
  | [], hl =>
    simp only [List.length_nil] at hl
    omega
theorem sz_head4 {hs : List Str} {n : Nat} {d : D} (h : headIs hs n d = true) (h3 : 4 ≤ n) : sz (nth d 1) + sz (nth d 2) + sz (nth d 3) + 2 ≤ sz d := by
  obtain ⟨x, r, rfl, hl, _⟩ := head_of h
  match r, hl with
  | a :: b :: c :: r', _ =>
    show sz a + sz b + sz c + 2 ≤ sz (.tup (.text x :: a :: b :: c :: r'))
    simp only [sz, szs]
    omega
  | [a, b], hl =>
    simp only [List.length_cons, List.length_nil] at hl
    omega
  | [a], hl =>
    simp only [List.length_cons, List.length_nil] at hl
    omega
  | [], hl =>
    simp only [List.length_nil] at hl
    omega
theorem tparts_sz {d : D} {ks : List D} (h : tparts d = some ks) : szs ks < sz d := by
  unfold tparts at h
  split at h
  · cases h
    exact sz_pos d
  · split at h
    · split at h
      · cases h
        exact sz_pos d
      · cases h
    · split at h
      · rename_i c
        cases h
        have := sz_head2 c (by decide)
        simp only [szs]
        omega
      · split at h
        · rename_i c
          cases h
          have := sz_head3 c (by decide)
          simp only [szs]
          omega
        · cases h
def isT : Nat → D → Bool
  | 0, _ => false
  | n + 1, d => match tparts d with
    | none => false
    | some ks => ks.all (isT n)
def isTest (d : D) : Bool := isT (sz d) d
theorem szs_mem {d : D} : ∀ {ks : List D}, d ∈ ks → sz d ≤ szs ks
  | k :: ks, h => by
    rcases List.mem_cons.mp h with e | e
    · subst e
      rw [szs]
      omega
    · have := szs_mem e
      rw [szs]
      omega
theorem all_congr {α : Type} {f g : α → Bool} : ∀ {l : List α}, (∀ x ∈ l, f x = g x) → l.all f = l.all g
  | [], _ => rfl
  | x :: l, h => by
    rw [List.all_cons, List.all_cons, h x List.mem_cons_self, all_congr fun y hy => h y (List.mem_cons_of_mem _ hy)]
theorem isT_more : ∀ (n m : Nat) (d : D), sz d ≤ n → n ≤ m → isT n d = isT m d
  | 0, _, d, h, _ => by
    have := sz_pos d
    omega
  | n + 1, 0, d, _, h => by omega
  | n + 1, m + 1, d, h, hm => by
    show (match tparts d with | none => false | some ks => ks.all (isT n)) = (match tparts d with | none => false | some ks => ks.all (isT m))
    cases e : tparts d with
    | none => rfl
    | some ks =>
      refine all_congr fun x hx => isT_more n m x ?_ (by omega)
      have := tparts_sz e
      have := szs_mem hx
      omega
theorem isTest_eq (d : D) : isTest d = match tparts d with
    | none => false
    | some ks => ks.all isTest := by
  unfold isTest
  rw [isT_more (sz d) (sz d + 1) d (Nat.le_refl _) (Nat.le_succ _)]
  show (match tparts d with | none => false | some ks => ks.all (isT (sz d))) = _
  cases e : tparts d with
  | none => rfl
  | some ks =>
    refine all_congr fun x hx => (isT_more (sz x) (sz d) x (Nat.le_refl _) ?_).symm
    have := tparts_sz e
    have := szs_mem hx
    omega
/-- a stack: its last item -/
theorem AtAll.last {H : Hp} {ks : List D} {us : List V} (a : AtAll H ks us) (h : 0 < us.length) : ∃ k u, ks = ks.dropLast ++ [k] ∧ us[us.length - 1]? = some u ∧ At H k u := by
  obtain ⟨k, hk, ak⟩ := a.get (i := us.length - 1) (List.getElem?_eq_getElem (by omega))
  have hl := a.length
  have hne : ks ≠ [] := fun z => by
    subst z
    simp at hl
    omega
  refine ⟨ks.getLast hne, us[us.length - 1]'(by omega), (List.dropLast_concat_getLast hne).symm, List.getElem?_eq_getElem (by omega), ?_⟩
  have e : ks[us.length - 1]? = some (ks.getLast hne) := by
    rw [← hl, ← List.getLast?_eq_getElem?, List.getLast?_eq_getLast hne]
  rw [e] at hk
  cases hk
  exact ak
section
variable {P : Program} {w : World} {K : PySem.W.Frag} {mg : Str → Option Value} {base : Heap}
def spIsTest : Sp := fun vs H Q _ => ∃ (d : D) (v : V), vs = [v] ∧ At H d v ∧ sz d ≤ 1000 ∧ ∀ H', Same H H' → Q (.bl (isTest d)) H'
theorem scIT : FnScope ["value", "waiting", "parts"] ["value"] (defScope sIsTest) := ⟨rfl, rfl, rfl, by decide +kernel, rfl, by decide +kernel, by decide +kernel⟩
theorem ok_isTest {f fT : Addr} {fd fdT : FuncData} (F : Fun K "is_test" "is_test" sIsTest f fd) (GT : FnOk P w K mg base CX0 2 fT fdT ["value"] spTParts) (kT : PySem.W.keepIn K (.ref fT) = true) (B : Blt mg)
    (gT : mg "test_parts" = some (.ref fT)) (bT : Binds K fdT ["value"] []) : FnOk P w K mg base CX0 3 f fd ["value"] spIsTest := by
  refine F.ok scIT (fun vs H Q E h => ?_) (fun cdv A outer s H vs Q E hr h => ?_)
  · obtain ⟨d, v, rfl, _⟩ := h
    rfl
  · obtain ⟨d, v, rfl, hd, hz, q⟩ := h
    refine ⟨_, pss_cons (ps_set (i := 1) scIT.nd rfl (.inl rfl) (pe_lst (pa_cons (pv 0) pa_nil)))
      (pss_cons (ps_while PassesOwn.never (pt_cmpR op_gt (pe_callB call_len_seq (by rfl) B.len PySem.boot_len (pa_cons (pv 1) pa_nil)) pe_int (nomark _))
        (pss_cons (ps_set (i := 2) scIT.nd rfl (.inl rfl) (pe_call GT hr (by rfl) gT kT bT .nil pass0 (pa_cons (pe_bm0 PySem.F.plainAttrs_list PySem.F.slot_list_pop PySem.F.type_list_pop mt_pop (pv 1)) pa_nil)))
        (pss_cons (ps_if (pt_cmp (pc_isN (pv 2))) (pss_one (ps_ret pe_bl)) pss_nil)
        (pss_one (ps_expr (pe_bm PySem.F.plainAttrs_list PySem.F.slot_list_extend PySem.F.type_list_extend mt_extend (pv 1) (pa_cons (pv 2) pa_nil)))))))
      (pss_one (ps_ret pe_bl))), ?_⟩
    refine ⟨_, rfl, by show 1 ≤ sizeLine; decide, fun l nl => ?_⟩
    refine ⟨fun m σ H' => ∃ (ks : List D) (us : List V) (x2 : Option V), σ = [some v, some (.ref l), x2] ∧ m = szs ks ∧ Same H H' ∧ H' l = some (.lst us) ∧ AtAll H' ks us ∧ szs ks ≤ 1000 ∧ isTest d = ks.all isTest,
      ⟨szs [d], [d], [v], none, rfl, rfl, same_new nl, upd_same, .cons (hd.tm (TM.new nl)) .nil, by simp only [szs]; omega, by simp⟩, ?_⟩
    rintro m σ H1 ⟨ks, us, x2, rfl, rfl, s1, hl, ha, hs, e⟩
    refine ⟨_, rfl, l, us, rfl, .inl (SqL.of hl), _, 0, rfl, rfl, _, rfl, ?_⟩
    refine ite_bl (fun c => ?_) (fun c => ?_)
    · have hlen : 0 < us.length := by
        have := of_decide_eq_true c
        omega
      obtain ⟨k, u, ek, hu, au⟩ := ha.last hlen
      have ez : szs ks = szs ks.dropLast + sz k := by
        conv => lhs; rw [ek]
        rw [szs_append]
        simp [szs]
      have eall : ks.all isTest = (ks.dropLast.all isTest && isTest k) := by
        conv => lhs; rw [ek]
        rw [List.all_append]
        simp
      refine ⟨fun σ' H' => ∃ (js : List D) (ws : List V) (x2 : Option V), σ' = [some v, some (.ref l), x2] ∧ szs js < szs ks ∧ Same H H' ∧ H' l = some (.lst ws) ∧ AtAll H' js ws ∧ szs js ≤ 1000 ∧ isTest d = js.all isTest, ?_, ?_⟩
      · rintro σ' H' ⟨js, ws, y2, r1, r2, r3, r4, r5, r6, r7⟩
        exact ⟨szs js, r2, js, ws, y2, r1, rfl, r3, r4, r5, r6, r7⟩
      -- parts = test_parts(waiting.pop())
      have tmu : TM H1 (upd H1 l (.lst us.dropLast)) := TM.lst hl
      have s2 : Same H (upd H1 l (.lst us.dropLast)) := same_mut s1 nl
      refine ⟨.ref l, rfl, .inl ⟨rfl, _, SqL.of hl⟩, l, us, u, rfl, rfl, hl, hu, k, u, rfl, au.tm tmu, fun en H2 s3 => ?_, fun ps en H2 p zs s3 np hp az => ?_⟩
      · refine ⟨_, rfl, _, rfl, iteT ?_⟩
        have z : isTest d = false := by
          rw [e, eall, isTest_eq k, en]
          simp
        have z2 := q H2 (s2.trans s3)
        rw [z] at z2
        exact z2
      · have hl2 : H2 l = some (.lst us.dropLast) := s3 _ _ upd_same
        have psz := tparts_sz en
        have a2 : AtAll H2 ks.dropLast us.dropLast := (ha.dropLast.tm tmu).tm (TM.same s3)
        have len1 := a2.length
        have len2 := az.length
        have len3 := len_szs ks.dropLast
        have len4 := len_szs ps
        refine ⟨_, rfl, _, rfl, iteF ?_⟩
        refine ⟨.ref l, rfl, .inl ⟨rfl, _, SqL.of hl2⟩, _, rfl, l, p, _, zs, rfl, rfl, hl2, hp, Nat.le_of_lt (small1000 (by omega)), ?_⟩
        refine ⟨ks.dropLast ++ ps, us.dropLast ++ zs, _, rfl, by rw [szs_append]; omega, same_mut (s2.trans s3) nl, upd_same, (a2.append az).tm (TM.lst hl2), by rw [szs_append]; omega, ?_⟩
        rw [e, eall, isTest_eq k, en, List.all_append]
    · have hlen : us = [] := by
        have := of_decide_eq_false c
        cases us with
        | nil => rfl
        | cons _ _ =>
          simp only [List.length_cons] at this
          omega
      subst hlen
      cases ha
      have z := q H1 s1
      rw [e] at z
      exact z
end
end K46

set_option Elab.async false
set_option linter.all false
set_option maxRecDepth 100000
set_option maxHeartbeats 4000000
/-! trees.py: program_parts, is_program. -/
namespace K46
open PySem PySem.Spec PyProof.Rows L2
/-! ### the mathematics -/
def pparts (d : D) : Option (List D × List D) :=
  if headIs ["skip", "stop"] 1 d = true then some ([], []) else
  if headIs ["deed"] 2 d = true then (if isName (nth d 1) = true then some ([], []) else none) else
  if headIs ["assume"] 2 d = true then some ([], [nth d 1]) else
  if headIs ["then", "choose"] 3 d = true then some ([nth d 1, nth d 2], []) else
  if headIs ["loop"] 2 d = true then some ([nth d 1], []) else
  if headIs ["if"] 4 d = true then some ([nth d 2, nth d 3], [nth d 1]) else
  if headIs ["while"] 3 d = true then some ([nth d 2], [nth d 1]) else
  if headIs ["repeat"] 3 d = true then some ([nth d 1], [nth d 2]) else none
theorem pparts_sz {d : D} {ps ts : List D} (h : pparts d = some (ps, ts)) : szs ps + szs ts < sz d := by
  unfold pparts at h
  have h1 := sz_pos d
  split at h
  · cases h
    simp only [szs]
    omega
  split at h
  · split at h
    · cases h
      simp only [szs]
      omega
    · cases h
  split at h
  · rename_i c
    cases h
    have := sz_head2 c (by decide)
    simp only [szs]
    omega
  split at h
  · rename_i c
    cases h
    have := sz_head3 c (by decide)
    simp only [szs]
    omega
  split at h
  · rename_i c
    cases h
    have := sz_head2 c (by decide)
    simp only [szs]
    omega
  split at h
  · rename_i c
    cases h
    have := sz_head4 c (by decide)
    simp only [szs]
    omega
  split at h
  · rename_i c
    cases h
    have := sz_head3 c (by decide)
    simp only [szs]
    omega
  split at h
  · rename_i c
    cases h
    have := sz_head3 c (by decide)
    simp only [szs]
    omega
  · cases h
def isP : Nat → D → Bool
  | 0, _ => false
  | n + 1, d => match pparts d with
    | none => false
    | some (ps, ts) => ts.all isTest && ps.all (isP n)
def isProg (d : D) : Bool := isP (sz d) d
theorem isP_more : ∀ (n m : Nat) (d : D), sz d ≤ n → n ≤ m → isP n d = isP m d
  | 0, _, d, h, _ => by
    have := sz_pos d
    omega
  | n + 1, 0, d, _, h => by omega
  | n + 1, m + 1, d, h, hm => by
    show (match pparts d with | none => false | some (ps, ts) => ts.all isTest && ps.all (isP n)) = (match pparts d with | none => false | some (ps, ts) => ts.all isTest && ps.all (isP m))
    cases e : pparts d with
    | none => rfl
    | some pt =>
      obtain ⟨ps, ts⟩ := pt
      show (ts.all isTest && ps.all (isP n)) = (ts.all isTest && ps.all (isP m))
      rw [all_congr fun x hx => isP_more n m x (by
        have := pparts_sz e
        have := szs_mem hx
        omega) (by omega)]
theorem isProg_eq (d : D) : isProg d = match pparts d with
    | none => false
    | some (ps, ts) => ts.all isTest && ps.all isProg := by
  unfold isProg
  rw [isP_more (sz d) (sz d + 1) d (Nat.le_refl _) (Nat.le_succ _)]
  show (match pparts d with | none => false | some (ps, ts) => ts.all isTest && ps.all (isP (sz d))) = _
  cases e : pparts d with
  | none => rfl
  | some pt =>
    obtain ⟨ps, ts⟩ := pt
    show (ts.all isTest && ps.all (isP (sz d))) = (ts.all isTest && ps.all fun d => isP (sz d) d)
    rw [all_congr fun x hx => (isP_more (sz x) (sz d) x (Nat.le_refl _) (by
        have := pparts_sz e
        have := szs_mem hx
        omega)).symm]
section
variable {P : Program} {w : World} {K : PySem.W.Frag} {mg : Str → Option Value} {base : Heap}
/-- a new pair of two new lists, or None -/
def spPParts : Sp := fun vs H Q _ => ∃ (d : D) (v : V), vs = [v] ∧ At H d v ∧ (pparts d = none → ∀ H', Same H H' → Q .non H') ∧
  (∀ ps ts, pparts d = some (ps, ts) → ∀ H' t p1 p2 us ws, Same H H' → H t = none → H p1 = none → H p2 = none → p1 ≠ p2 → H' t = some (.tup [.ref p1, .ref p2]) → H' p1 = some (.lst us) → H' p2 = some (.lst ws) → AtAll H' ps us → AtAll H' ts ws → Q (.ref t) H')
theorem scPP : FnScope ["value"] ["value"] (defScope sProgParts) := ⟨rfl, rfl, rfl, by decide +kernel, rfl, by decide +kernel, by decide +kernel⟩
theorem ok_pparts {f fH fN : Addr} {fd fdH fdN : FuncData} (F : Fun K "program_parts" "program_parts" sProgParts f fd) (GH : FnOk P w K mg base CX0 1 fH fdH ["value", "heads", "length"] spHead) (kH : PySem.W.keepIn K (.ref fH) = true) (GN : FnOk P w K mg base CX0 1 fN fdN ["value"] spName) (kN : PySem.W.keepIn K (.ref fN) = true)
    (gH : mg "is_head" = some (.ref fH)) (gN : mg "is_name" = some (.ref fN)) (bH : Binds K fdH ["value", "heads", "length"] []) (bN : Binds K fdN ["value"] []) : FnOk P w K mg base CX0 2 f fd ["value"] spPParts := by
  refine F.ok scPP (fun vs H Q E h => ?_) (fun cdv A outer s H vs Q E hr h => ?_)
  · obtain ⟨d, v, rfl, _⟩ := h
    rfl
  · obtain ⟨d, v, rfl, hd, kN', kS⟩ := h
    refine ⟨_, pss_cons (ps_if (pt_val (pe_call GH hr (by rfl) gH kH bH .nil pass0 (pa_cons (pv 0) (pa_cons (pe_tup (pa_cons pe_str (pa_cons pe_str pa_nil))) (pa_cons pe_int pa_nil))))) (pss_one (ps_ret (pe_tup (pa_cons (pe_lst pa_nil) (pa_cons (pe_lst pa_nil) pa_nil))))) pss_nil)
      (pss_cons (ps_if (pt_val (pe_call GH hr (by rfl) gH kH bH .nil pass0 (pa_cons (pv 0) (pa_cons (pe_tup (pa_cons pe_str pa_nil)) (pa_cons pe_int pa_nil)))))
        (pss_one (ps_ret (pe_ifExp (pt_val (pe_call GN hr (by rfl) gN kN bN .nil pass0 (pa_cons (pe_ix ix_tup (pv 0) pe_int (fun _ _ => rfl)) pa_nil))) (pe_tup (pa_cons (pe_lst pa_nil) (pa_cons (pe_lst pa_nil) pa_nil))) pe_non))) pss_nil)
      (pss_cons (ps_if (pt_val (pe_call GH hr (by rfl) gH kH bH .nil pass0 (pa_cons (pv 0) (pa_cons (pe_tup (pa_cons pe_str pa_nil)) (pa_cons pe_int pa_nil)))))
        (pss_one (ps_ret (pe_tup (pa_cons (pe_lst pa_nil) (pa_cons (pe_lst (pa_cons (pe_ix ix_tup (pv 0) pe_int (fun _ _ => rfl)) pa_nil)) pa_nil))))) pss_nil)
      (pss_cons (ps_if (pt_val (pe_call GH hr (by rfl) gH kH bH .nil pass0 (pa_cons (pv 0) (pa_cons (pe_tup (pa_cons pe_str (pa_cons pe_str pa_nil))) (pa_cons pe_int pa_nil)))))
        (pss_one (ps_ret (pe_tup (pa_cons (pe_lst (pa_cons (pe_ix ix_tup (pv 0) pe_int (fun _ _ => rfl)) (pa_cons (pe_ix ix_tup (pv 0) pe_int (fun _ _ => rfl)) pa_nil))) (pa_cons (pe_lst pa_nil) pa_nil))))) pss_nil)
      (pss_cons (ps_if (pt_val (pe_call GH hr (by rfl) gH kH bH .nil pass0 (pa_cons (pv 0) (pa_cons (pe_tup (pa_cons pe_str pa_nil)) (pa_cons pe_int pa_nil)))))
        (pss_one (ps_ret (pe_tup (pa_cons (pe_lst (pa_cons (pe_ix ix_tup (pv 0) pe_int (fun _ _ => rfl)) pa_nil)) (pa_cons (pe_lst pa_nil) pa_nil))))) pss_nil)
      (pss_cons (ps_if (pt_val (pe_call GH hr (by rfl) gH kH bH .nil pass0 (pa_cons (pv 0) (pa_cons (pe_tup (pa_cons pe_str pa_nil)) (pa_cons pe_int pa_nil)))))
        (pss_one (ps_ret (pe_tup (pa_cons (pe_lst (pa_cons (pe_ix ix_tup (pv 0) pe_int (fun _ _ => rfl)) (pa_cons (pe_ix ix_tup (pv 0) pe_int (fun _ _ => rfl)) pa_nil))) (pa_cons (pe_lst (pa_cons (pe_ix ix_tup (pv 0) pe_int (fun _ _ => rfl)) pa_nil)) pa_nil))))) pss_nil)
      (pss_cons (ps_if (pt_val (pe_call GH hr (by rfl) gH kH bH .nil pass0 (pa_cons (pv 0) (pa_cons (pe_tup (pa_cons pe_str pa_nil)) (pa_cons pe_int pa_nil)))))
        (pss_one (ps_ret (pe_tup (pa_cons (pe_lst (pa_cons (pe_ix ix_tup (pv 0) pe_int (fun _ _ => rfl)) pa_nil)) (pa_cons (pe_lst (pa_cons (pe_ix ix_tup (pv 0) pe_int (fun _ _ => rfl)) pa_nil)) pa_nil))))) pss_nil)
      (pss_one (ps_ret (pe_ifExp (pt_val (pe_call GH hr (by rfl) gH kH bH .nil pass0 (pa_cons (pv 0) (pa_cons (pe_tup (pa_cons pe_str pa_nil)) (pa_cons pe_int pa_nil)))))
        (pe_tup (pa_cons (pe_lst (pa_cons (pe_ix ix_tup (pv 0) pe_int (fun _ _ => rfl)) pa_nil)) (pa_cons (pe_lst (pa_cons (pe_ix ix_tup (pv 0) pe_int (fun _ _ => rfl)) pa_nil)) pa_nil))) pe_non))))))))), ?_⟩
    have sl : ∀ n : Nat, n ≤ 1000 → n ≤ sizeLine := fun n h => Nat.le_of_lt (small1000 h)
    -- the end of each: the first list, the second one, the pair
    have fin : ∀ {H1 H2 H3 : Hp} {p1 p2 : Addr} {ps ts : List D} {us ws : List V}, Same H H1 → pparts d = some (ps, ts) → AtAll H1 ps us → H1 p1 = none → (∀ xs, AtAll H1 ts xs → xs = ws → AtAll (upd H1 p1 (.lst us)) ts ws) → AtAll H1 ts ws → (upd H1 p1 (.lst us)) p2 = none →
        [V.ref p1, V.ref p2].length ≤ sizeLine ∧ ∀ p, (upd (upd H1 p1 (.lst us)) p2 (.lst ws)) p = none → Q (.ref p) (upd (upd (upd H1 p1 (.lst us)) p2 (.lst ws)) p (.tup [.ref p1, .ref p2])) :=
      fun {H1 H2 H3 p1 p2 ps ts us ws} s1 e a1 n1 _ a2 n2 => by
        refine ⟨by show 2 ≤ sizeLine; decide, fun p np => ?_⟩
        have t1 : Same H1 (upd H1 p1 (.lst us)) := same_new n1
        have t2 : Same (upd H1 p1 (.lst us)) (upd (upd H1 p1 (.lst us)) p2 (.lst ws)) := same_new n2
        have t3 : Same (upd (upd H1 p1 (.lst us)) p2 (.lst ws)) (upd (upd (upd H1 p1 (.lst us)) p2 (.lst ws)) p (.tup [.ref p1, .ref p2])) := same_new np
        have tt := TM.same (t1.trans (t2.trans t3))
        have e1 : (upd (upd (upd H1 p1 (.lst us)) p2 (.lst ws)) p (.tup [.ref p1, .ref p2])) p1 = some (.lst us) := t3 _ _ (t2 _ _ upd_same)
        have e2 : (upd (upd (upd H1 p1 (.lst us)) p2 (.lst ws)) p (.tup [.ref p1, .ref p2])) p2 = some (.lst ws) := t3 _ _ upd_same
        have n12 : p1 ≠ p2 := ne_of_none (upd_same (H := H1) (a := p1) (o := .lst us)) n2
        exact kS ps ts e _ p p1 p2 us ws (s1.trans (t1.trans (t2.trans t3))) (s1.free (t1.free (t2.free np))) (s1.free n1) (s1.free (t1.free n2)) n12 upd_same e1 e2 (a1.tm tt) (a2.tm tt)
    refine rd_head (v := v) (i := 0) ["skip", "stop"] 1 (by decide) (by decide) rfl hd (fun H1 s1 => ?_)
    refine ⟨_, rfl, ?_⟩
    refine ite_bl (fun c1 => ?_) (fun c1 => ?_)
    · exact ⟨sl 0 (by decide), fun p1 n1 => ⟨sl 0 (by decide), fun p2 n2 => fin (H2 := H) (H3 := H) (us := []) (ws := []) s1 (by unfold pparts; rw [if_pos c1]) .nil n1 (fun _ _ _ => .nil) .nil n2⟩⟩
    have c1' : ¬ headIs ["skip", "stop"] 1 d = true := by rw [c1]; exact Bool.false_ne_true
    refine rd_head (v := v) (i := 0) ["deed"] 2 (by decide) (by decide) rfl (hd.tm (TM.same s1)) (fun H2 s2 => ?_)
    refine ⟨_, rfl, ?_⟩
    have s12 := s1.trans s2
    refine ite_bl (fun c2 => ?_) (fun c2 => ?_)
    · obtain ⟨p, xs, u, rfl, hp, hl, hu, hdu⟩ := (hd.tm (TM.same s12)).item c2 1 (by decide)
      refine ⟨_, rfl, p, xs, 1, u, rfl, rfl, SqT.of hp, atI_nat (j := 1) hu, nth d 1, u, rfl, hdu, fun H3 s3 => ⟨_, rfl, ?_⟩⟩
      have s13 := s12.trans s3
      refine ite_bl (fun c3 => ?_) (fun c3 => ?_)
      · exact ⟨sl 0 (by decide), fun p1 n1 => ⟨sl 0 (by decide), fun p2 n2 => fin (H2 := H) (H3 := H) (us := []) (ws := []) s13 (by unfold pparts; rw [if_neg c1', if_pos c2, if_pos c3]) .nil n1 (fun _ _ _ => .nil) .nil n2⟩⟩
      · exact kN' (by unfold pparts; rw [if_neg c1', if_pos c2, if_neg (by rw [c3]; exact Bool.false_ne_true)]) H3 s13
    have c2' : ¬ headIs ["deed"] 2 d = true := by rw [c2]; exact Bool.false_ne_true
    refine rd_head (v := v) (i := 0) ["assume"] 2 (by decide) (by decide) rfl (hd.tm (TM.same s12)) (fun H3 s3 => ?_)
    refine ⟨_, rfl, ?_⟩
    have s13 := s12.trans s3
    refine ite_bl (fun c3 => ?_) (fun c3 => ?_)
    · obtain ⟨p, xs, u, rfl, hp, hl, hu, hdu⟩ := (hd.tm (TM.same s13)).item c3 1 (by decide)
      refine ⟨sl 0 (by decide), fun p1 n1 => ⟨_, rfl, p, xs, 1, u, rfl, rfl, SqT.of (same_new n1 _ _ hp), atI_nat (j := 1) hu, sl 1 (by decide), fun p2 n2 => ?_⟩⟩
      exact fin (H2 := H) (H3 := H) (us := []) (ws := [u]) s13 (by unfold pparts; rw [if_neg c1', if_neg c2', if_pos c3]) .nil n1 (fun xs h e => by subst e; exact h.tm (TM.new n1)) (.cons hdu .nil) n2
    have c3' : ¬ headIs ["assume"] 2 d = true := by rw [c3]; exact Bool.false_ne_true
    refine rd_head (v := v) (i := 0) ["then", "choose"] 3 (by decide) (by decide) rfl (hd.tm (TM.same s13)) (fun H4 s4 => ?_)
    refine ⟨_, rfl, ?_⟩
    have s14 := s13.trans s4
    refine ite_bl (fun c4 => ?_) (fun c4 => ?_)
    · obtain ⟨p, xs, u, rfl, hp, hl, hu, hdu⟩ := (hd.tm (TM.same s14)).item c4 1 (by decide)
      obtain ⟨p', xs', u', ev, hp', _, hu', hdu'⟩ := (hd.tm (TM.same s14)).item c4 2 (by decide)
      cases ev
      rw [hp] at hp'
      cases hp'
      refine ⟨_, rfl, p, xs, 1, u, rfl, rfl, SqT.of hp, atI_nat (j := 1) hu, _, rfl, p, xs, 2, u', rfl, rfl, SqT.of hp, atI_nat (j := 2) hu', sl 2 (by decide), fun p1 n1 => ⟨sl 0 (by decide), fun p2 n2 => ?_⟩⟩
      exact fin (H2 := H) (H3 := H) (us := [u, u']) (ws := []) s14 (by unfold pparts; rw [if_neg c1', if_neg c2', if_neg c3', if_pos c4]) (.cons hdu (.cons hdu' .nil)) n1 (fun _ _ _ => .nil) .nil n2
    have c4' : ¬ headIs ["then", "choose"] 3 d = true := by rw [c4]; exact Bool.false_ne_true
    refine rd_head (v := v) (i := 0) ["loop"] 2 (by decide) (by decide) rfl (hd.tm (TM.same s14)) (fun H5 s5 => ?_)
    refine ⟨_, rfl, ?_⟩
    have s15 := s14.trans s5
    refine ite_bl (fun c5 => ?_) (fun c5 => ?_)
    · obtain ⟨p, xs, u, rfl, hp, hl, hu, hdu⟩ := (hd.tm (TM.same s15)).item c5 1 (by decide)
      refine ⟨_, rfl, p, xs, 1, u, rfl, rfl, SqT.of hp, atI_nat (j := 1) hu, sl 1 (by decide), fun p1 n1 => ⟨sl 0 (by decide), fun p2 n2 => ?_⟩⟩
      exact fin (H2 := H) (H3 := H) (us := [u]) (ws := []) s15 (by unfold pparts; rw [if_neg c1', if_neg c2', if_neg c3', if_neg c4', if_pos c5]) (.cons hdu .nil) n1 (fun _ _ _ => .nil) .nil n2
    have c5' : ¬ headIs ["loop"] 2 d = true := by rw [c5]; exact Bool.false_ne_true
    refine rd_head (v := v) (i := 0) ["if"] 4 (by decide) (by decide) rfl (hd.tm (TM.same s15)) (fun H6 s6 => ?_)
    refine ⟨_, rfl, ?_⟩
    have s16 := s15.trans s6
    refine ite_bl (fun c6 => ?_) (fun c6 => ?_)
    · obtain ⟨p, xs, u, rfl, hp, hl, hu, hdu⟩ := (hd.tm (TM.same s16)).item c6 1 (by decide)
      obtain ⟨p', xs', u', ev, hp', _, hu', hdu'⟩ := (hd.tm (TM.same s16)).item c6 2 (by decide)
      cases ev
      rw [hp] at hp'
      cases hp'
      obtain ⟨p', xs', u3, ev, hp', _, hu3, hdu3⟩ := (hd.tm (TM.same s16)).item c6 3 (by decide)
      cases ev
      rw [hp] at hp'
      cases hp'
      refine ⟨_, rfl, p, xs, 2, u', rfl, rfl, SqT.of hp, atI_nat (j := 2) hu', _, rfl, p, xs, 3, u3, rfl, rfl, SqT.of hp, atI_nat (j := 3) hu3, sl 2 (by decide), fun p1 n1 => ⟨_, rfl, p, xs, 1, u, rfl, rfl, SqT.of (same_new n1 _ _ hp), atI_nat (j := 1) hu, sl 1 (by decide), fun p2 n2 => ?_⟩⟩
      exact fin (H2 := H) (H3 := H) (us := [u', u3]) (ws := [u]) s16 (by unfold pparts; rw [if_neg c1', if_neg c2', if_neg c3', if_neg c4', if_neg c5', if_pos c6]) (.cons hdu' (.cons hdu3 .nil)) n1 (fun xs h e => by subst e; exact h.tm (TM.new n1)) (.cons hdu .nil) n2
    have c6' : ¬ headIs ["if"] 4 d = true := by rw [c6]; exact Bool.false_ne_true
    refine rd_head (v := v) (i := 0) ["while"] 3 (by decide) (by decide) rfl (hd.tm (TM.same s16)) (fun H7 s7 => ?_)
    refine ⟨_, rfl, ?_⟩
    have s17 := s16.trans s7
    refine ite_bl (fun c7 => ?_) (fun c7 => ?_)
    · obtain ⟨p, xs, u, rfl, hp, hl, hu, hdu⟩ := (hd.tm (TM.same s17)).item c7 1 (by decide)
      obtain ⟨p', xs', u', ev, hp', _, hu', hdu'⟩ := (hd.tm (TM.same s17)).item c7 2 (by decide)
      cases ev
      rw [hp] at hp'
      cases hp'
      refine ⟨_, rfl, p, xs, 2, u', rfl, rfl, SqT.of hp, atI_nat (j := 2) hu', sl 1 (by decide), fun p1 n1 => ⟨_, rfl, p, xs, 1, u, rfl, rfl, SqT.of (same_new n1 _ _ hp), atI_nat (j := 1) hu, sl 1 (by decide), fun p2 n2 => ?_⟩⟩
      exact fin (H2 := H) (H3 := H) (us := [u']) (ws := [u]) s17 (by unfold pparts; rw [if_neg c1', if_neg c2', if_neg c3', if_neg c4', if_neg c5', if_neg c6', if_pos c7]) (.cons hdu' .nil) n1 (fun xs h e => by subst e; exact h.tm (TM.new n1)) (.cons hdu .nil) n2
    have c7' : ¬ headIs ["while"] 3 d = true := by rw [c7]; exact Bool.false_ne_true
    refine rd_head (v := v) (i := 0) ["repeat"] 3 (by decide) (by decide) rfl (hd.tm (TM.same s17)) (fun H8 s8 => ?_)
    refine ⟨_, rfl, ?_⟩
    have s18 := s17.trans s8
    refine ite_bl (fun c8 => ?_) (fun c8 => ?_)
    · obtain ⟨p, xs, u, rfl, hp, hl, hu, hdu⟩ := (hd.tm (TM.same s18)).item c8 1 (by decide)
      obtain ⟨p', xs', u', ev, hp', _, hu', hdu'⟩ := (hd.tm (TM.same s18)).item c8 2 (by decide)
      cases ev
      rw [hp] at hp'
      cases hp'
      refine ⟨_, rfl, p, xs, 1, u, rfl, rfl, SqT.of hp, atI_nat (j := 1) hu, sl 1 (by decide), fun p1 n1 => ⟨_, rfl, p, xs, 2, u', rfl, rfl, SqT.of (same_new n1 _ _ hp), atI_nat (j := 2) hu', sl 1 (by decide), fun p2 n2 => ?_⟩⟩
      exact fin (H2 := H) (H3 := H) (us := [u]) (ws := [u']) s18 (by unfold pparts; rw [if_neg c1', if_neg c2', if_neg c3', if_neg c4', if_neg c5', if_neg c6', if_neg c7', if_pos c8]) (.cons hdu .nil) n1 (fun xs h e => by subst e; exact h.tm (TM.new n1)) (.cons hdu' .nil) n2
    · exact kN' (by unfold pparts; rw [if_neg c1', if_neg c2', if_neg c3', if_neg c4', if_neg c5', if_neg c6', if_neg c7', if_neg (by rw [c8]; exact Bool.false_ne_true)]) H8 s18
end
end K46

set_option Elab.async false
set_option linter.all false
set_option maxRecDepth 100000
set_option maxHeartbeats 4000000
/-! trees.py: is_program. -/
namespace K46
open PySem PySem.Spec PyProof.Rows L2
section
variable {P : Program} {w : World} {K : PySem.W.Frag} {mg : Str → Option Value} {base : Heap}
def spIsProg : Sp := fun vs H Q _ => ∃ (d : D) (v : V), vs = [v] ∧ At H d v ∧ sz d ≤ 1000 ∧ ∀ H', Same H H' → Q (.bl (isProg d)) H'
theorem scIP : FnScope ["value", "waiting", "parts", "test"] ["value"] (defScope sIsProg) := ⟨rfl, rfl, rfl, by decide +kernel, rfl, by decide +kernel, by decide +kernel⟩
theorem ok_isProg {f fP fT : Addr} {fd fdP fdT : FuncData} (F : Fun K "is_program" "is_program" sIsProg f fd) (GP : FnOk P w K mg base CX0 2 fP fdP ["value"] spPParts) (kP : PySem.W.keepIn K (.ref fP) = true) (GT : FnOk P w K mg base CX0 3 fT fdT ["value"] spIsTest) (kT : PySem.W.keepIn K (.ref fT) = true) (B : Blt mg)
    (gP : mg "program_parts" = some (.ref fP)) (bP : Binds K fdP ["value"] []) (gT : mg "is_test" = some (.ref fT)) (bT : Binds K fdT ["value"] []) : FnOk P w K mg base CX0 4 f fd ["value"] spIsProg := by
  refine F.ok scIP (fun vs H Q E h => ?_) (fun cdv A outer s H vs Q E hr h => ?_)
  · obtain ⟨d, v, rfl, _⟩ := h
    rfl
  · obtain ⟨d, v, rfl, hd, hz, q⟩ := h
    have hr2 := hr.mono (show 2 ≤ 3 by decide)
    refine ⟨_, pss_cons (ps_set (i := 1) scIP.nd rfl (.inl rfl) (pe_lst (pa_cons (pv 0) pa_nil)))
      (pss_cons (ps_while PassesOwn.never (pt_cmpR op_gt (pe_callB call_len_seq (by rfl) B.len PySem.boot_len (pa_cons (pv 1) pa_nil)) pe_int (nomark _))
        (pss_cons (ps_set (i := 2) scIP.nd rfl (.inl rfl) (pe_call GP hr2 (by rfl) gP kP bP .nil pass0 (pa_cons (pe_bm0 PySem.F.plainAttrs_list PySem.F.slot_list_pop PySem.F.type_list_pop mt_pop (pv 1)) pa_nil)))
        (pss_cons (ps_if (PW.pt (pw_or (pt_cmp (pc_isN (pv 2))) (pw_or1 (pt_not (pt_val (pe_callB (cr_all rfl) (by rfl) B.all (by decide +kernel) (pa_cons
            (pe_lc (own := [("test", 3)]) (g := gName 3) (tt := tYes) rfl scIP.nd (pi_list (pe_ix ix_tup (pv 2) pe_int (fun _ _ => rfl))) (blkOk_by (N := ["value", "waiting", "parts", "test"]) (sc := defScope sIsProg) (by decide +kernel)) (fun _ _ _ _ _ => pg_name (i := 3) scIP.nd rfl (Or.inl rfl)) (fun _ _ _ _ _ => pts_nil)
              (fun _ _ _ _ _ => pe_call GT hr (by rfl) gT kT bT .nil pass0 (pa_cons (pv 3) pa_nil))) pa_nil)))))))
          (pss_one (ps_ret pe_bl)) pss_nil)
        (pss_one (ps_expr (pe_bm PySem.F.plainAttrs_list PySem.F.slot_list_extend PySem.F.type_list_extend mt_extend (pv 1) (pa_cons (pe_ix ix_tup (pv 2) pe_int (fun _ _ => rfl)) pa_nil)))))))
      (pss_one (ps_ret pe_bl))), ?_⟩
    refine ⟨_, rfl, by show 1 ≤ sizeLine; decide, fun l nl => ?_⟩
    refine ⟨fun m σ H' => ∃ (ks : List D) (us : List V) (x2 x3 : Option V), σ = [some v, some (.ref l), x2, x3] ∧ m = szs ks ∧ Same H H' ∧ H' l = some (.lst us) ∧ AtAll H' ks us ∧ szs ks ≤ 1000 ∧ isProg d = ks.all isProg,
      ⟨szs [d], [d], [v], none, none, rfl, rfl, same_new nl, upd_same, .cons (hd.tm (TM.new nl)) .nil, by simp only [szs]; omega, by simp⟩, ?_⟩
    rintro m σ H1 ⟨ks, us, x2, x3, rfl, rfl, s1, hl, ha, hs, e⟩
    refine ⟨_, rfl, l, us, rfl, .inl (SqL.of hl), _, 0, rfl, rfl, _, rfl, ?_⟩
    refine ite_bl (fun c => ?_) (fun c => ?_)
    · have hlen : 0 < us.length := by
        have := of_decide_eq_true c
        omega
      obtain ⟨k, u, ek, hu, au⟩ := ha.last hlen
      have ez : szs ks = szs ks.dropLast + sz k := by
        conv => lhs; rw [ek]
        rw [szs_append]
        simp [szs]
      have eall : ks.all isProg = (ks.dropLast.all isProg && isProg k) := by
        conv => lhs; rw [ek]
        rw [List.all_append]
        simp
      refine ⟨fun σ' H' => ∃ (js : List D) (ws : List V) (x2 x3 : Option V), σ' = [some v, some (.ref l), x2, x3] ∧ szs js < szs ks ∧ Same H H' ∧ H' l = some (.lst ws) ∧ AtAll H' js ws ∧ szs js ≤ 1000 ∧ isProg d = js.all isProg, ?_, ?_⟩
      · rintro σ' H' ⟨js, ws, y2, y3, r1, r2, r3, r4, r5, r6, r7⟩
        exact ⟨szs js, r2, js, ws, y2, y3, r1, rfl, r3, r4, r5, r6, r7⟩
      have tmu : TM H1 (upd H1 l (.lst us.dropLast)) := TM.lst hl
      have s2 : Same H (upd H1 l (.lst us.dropLast)) := same_mut s1 nl
      refine ⟨.ref l, rfl, .inl ⟨rfl, _, SqL.of hl⟩, l, us, u, rfl, rfl, hl, hu, k, u, rfl, au.tm tmu, fun en H2 s3 => ?_, fun ps ts en H2 t p1 p2 zs ws s3 nt np1 np2 n12 ht hp1 hp2 az aw => ?_⟩
      · refine ⟨_, rfl, _, rfl, iteT (iteT ?_)⟩
        have z : isProg d = false := by
          rw [e, eall, isProg_eq k, en]
          simp
        have z2 := q H2 (s2.trans s3)
        rw [z] at z2
        exact z2
      · have hl2 : H2 l = some (.lst us.dropLast) := s3 _ _ upd_same
        have psz := pparts_sz en
        have a2 : AtAll H2 ks.dropLast us.dropLast := (ha.dropLast.tm tmu).tm (TM.same s3)
        have len1 := a2.length
        have len2 := az.length
        have len3 := len_szs ks.dropLast
        have len4 := len_szs ps
        have len5 := len_szs ts
        have len6 := aw.length
        refine ⟨_, rfl, _, rfl, iteF ?_⟩
        -- all([is_test(test) for test in parts[1]])
        refine ⟨_, rfl, t, _, 1, .ref p2, rfl, rfl, SqT.of ht, atI_nat (j := 1) rfl, p2, rfl, ⟨_, SqL.of hp2⟩, fun Dl nD => ?_⟩
        refine lc_list (K := K) (a := p2) (xs := ws) (fun i H' => Same H2 H' ∧ H' Dl = some (.lst (((ts.take i).map isTest).map V.bl))) ⟨same_new nD, upd_same⟩ (fun i H' _ ⟨sm, _⟩ => SqL.of (sm _ _ hp2)) ?_ ?_
        · rintro i x H3 hx ⟨sm, hD⟩
          obtain ⟨tk, htk, atk⟩ := aw.get hx
          refine ⟨rfl, ?_⟩
          refine ⟨_, rfl, tk, x, rfl, atk.tm (TM.same sm), ?_, fun H4 s4 => ?_⟩
          · have := szs_mem (List.mem_of_getElem? htk)
            omega
          · have ap : ((ts.take (i + 1)).map isTest).map V.bl = ((ts.take i).map isTest).map V.bl ++ [V.bl (isTest tk)] := by
              rw [take_more htk, List.map_append, List.map_append]
              rfl
            refine ⟨_, s4 _ _ hD, ?_, same_mut (sm.trans s4) nD, by rw [upd_same, ap]⟩
            rw [List.length_map, List.length_map, List.length_take]
            exact small1000 (by omega)
        · intro H3 ⟨sm, hD⟩
          have ett : ts.take ws.length = ts := List.take_of_length_le (by omega)
          rw [ett] at hD
          refine ⟨Dl, ts.map isTest, rfl, SqL.of hD, _, rfl, ?_⟩
          rw [List.all_map]
          show if (!(ts.all isTest)) = true then _ else _
          cases et : ts.all isTest with
          | false =>
            refine iteT ?_
            have z : isProg d = false := by
              rw [e, eall, isProg_eq k, en]
              show (ks.dropLast.all isProg && (ts.all isTest && ps.all isProg)) = false
              rw [et, Bool.false_and, Bool.and_false]
            have z2 := q H3 (s2.trans (s3.trans sm))
            rw [z] at z2
            exact z2
          | true =>
            refine iteF ?_
            have hl3 : H3 l = some (.lst us.dropLast) := sm _ _ hl2
            refine ⟨.ref l, rfl, .inl ⟨rfl, _, SqL.of hl3⟩, _, rfl, t, _, 0, .ref p1, rfl, rfl, SqT.of (sm _ _ ht), atI_nat (j := 0) rfl, l, p1, _, zs, rfl, rfl, hl3, sm _ _ hp1, Nat.le_of_lt (small1000 (by omega)), ?_⟩
            refine ⟨ks.dropLast ++ ps, us.dropLast ++ zs, _, _, rfl, by rw [szs_append]; omega, same_mut (s2.trans (s3.trans sm)) nl, upd_same, ((a2.append az).tm (TM.same sm)).tm (TM.lst hl3), by rw [szs_append]; omega, ?_⟩
            rw [e, eall, isProg_eq k, en, List.all_append]
            show (ks.dropLast.all isProg && (ts.all isTest && ps.all isProg)) = _
            rw [et, Bool.true_and]
    · have hlen : us = [] := by
        have := of_decide_eq_false c
        cases us with
        | nil => rfl
        | cons _ _ =>
          simp only [List.length_cons] at this
          omega
      subst hlen
      cases ha
      have z := q H1 s1
      rw [e] at z
      exact z
end
end K46

set_option Elab.async false
set_option linter.all false
set_option maxRecDepth 100000
set_option maxHeartbeats 4000000
/-! Trees as Lean trees. -/
namespace K46
open PySem PySem.Spec PyProof.Rows L2
inductive Te where
  | tr | fa
  | nm (s : Str)
  | no (t : Te)
  | an (t u : Te)
  | og (t u : Te)
  deriving DecidableEq
inductive Pr where
  | skip | stop
  | deed (s : Str)
  | assume (t : Te)
  | thn (p q : Pr)
  | cho (p q : Pr)
  | loop (p : Pr)
  | ite (t : Te) (p q : Pr)
  | whl (t : Te) (p : Pr)
  | rep (p : Pr) (t : Te)
  deriving DecidableEq
def tx (x : Str) : D := .text x
def encT : Te → D
  | .tr => .tup [.text "true"]
  | .fa => .tup [.text "false"]
  | .nm s => .tup [.text "name", .text s]
  | .no t => .tup [.text "not", encT t]
  | .an t u => .tup [.text "and", encT t, encT u]
  | .og t u => .tup [.text "or", encT t, encT u]
def encP : Pr → D
  | .skip => .tup [.text "skip"]
  | .stop => .tup [.text "stop"]
  | .deed s => .tup [.text "deed", .text s]
  | .assume t => .tup [.text "assume", encT t]
  | .thn p q => .tup [.text "then", encP p, encP q]
  | .cho p q => .tup [.text "choose", encP p, encP q]
  | .loop p => .tup [.text "loop", encP p]
  | .ite t p q => .tup [.text "if", encT t, encP p, encP q]
  | .whl t p => .tup [.text "while", encT t, encP p]
  | .rep p t => .tup [.text "repeat", encP p, encT t]
/-- all names are names -/
def okT : Te → Bool
  | .tr => true
  | .fa => true
  | .nm s => nameOk s
  | .no t => okT t
  | .an t u => okT t && okT u
  | .og t u => okT t && okT u
def okP : Pr → Bool
  | .skip => true
  | .stop => true
  | .deed s => nameOk s
  | .assume t => okT t
  | .thn p q => okP p && okP q
  | .cho p q => okP p && okP q
  | .loop p => okP p
  | .ite t p q => okT t && okP p && okP q
  | .whl t p => okT t && okP p
  | .rep p t => okP p && okT t
def kidsT : Te → List Te
  | .no t => [t]
  | .an t u => [t, u]
  | .og t u => [t, u]
  | _ => []
def kidsP : Pr → List Pr
  | .thn p q => [p, q]
  | .cho p q => [p, q]
  | .loop p => [p]
  | .ite _ p q => [p, q]
  | .whl _ p => [p]
  | .rep p _ => [p]
  | _ => []
def testsP : Pr → List Te
  | .assume t => [t]
  | .ite t _ _ => [t]
  | .whl t _ => [t]
  | .rep _ t => [t]
  | _ => []
theorem tparts_enc : ∀ t : Te, okT t = true → tparts (encT t) = some ((kidsT t).map encT)
  | .tr, _ => by decide +kernel
  | .fa, _ => by decide +kernel
  | .nm s, h => by
    have h : nameOk s = true := h
    show (if nameOk s = true then some [] else none) = some []
    rw [if_pos h]
  | .no t, _ => rfl
  | .an t u, _ => rfl
  | .og t u, _ => rfl
theorem pparts_enc : ∀ p : Pr, okP p = true → pparts (encP p) = some ((kidsP p).map encP, (testsP p).map encT)
  | .skip, _ => by decide +kernel
  | .stop, _ => by decide +kernel
  | .deed s, h => by
    have h : nameOk s = true := h
    show (if nameOk s = true then some ([], []) else none) = some ([], [])
    rw [if_pos h]
  | .assume t, _ => rfl
  | .thn p q, _ => rfl
  | .cho p q, _ => rfl
  | .loop p, _ => rfl
  | .ite t p q, _ => rfl
  | .whl t p, _ => rfl
  | .rep p t, _ => rfl
theorem kidsT_ok {t : Te} (h : okT t = true) : ∀ u ∈ kidsT t, okT u = true := by
  cases t <;> simp_all [okT, kidsT]
theorem kidsP_ok {p : Pr} (h : okP p = true) : ∀ u ∈ kidsP p, okP u = true := by
  cases p <;> simp_all [okP, kidsP]
theorem testsP_ok {p : Pr} (h : okP p = true) : ∀ u ∈ testsP p, okT u = true := by
  cases p <;> simp_all [okP, testsP]
theorem isTest_enc : ∀ t : Te, okT t = true → isTest (encT t) = true
  | .tr, h => by rw [isTest_eq, tparts_enc _ h] <;> rfl
  | .fa, h => by rw [isTest_eq, tparts_enc _ h] <;> rfl
  | .nm s, h => by rw [isTest_eq, tparts_enc _ h] <;> rfl
  | .no t, h => by
    have h1 : okT t = true := h
    rw [isTest_eq, tparts_enc _ h]
    simp [kidsT, isTest_enc t h1]
  | .an t u, h => by
    have h1 : okT t = true ∧ okT u = true := by simpa [okT] using h
    rw [isTest_eq, tparts_enc _ h]
    simp [kidsT, isTest_enc t h1.1, isTest_enc u h1.2]
  | .og t u, h => by
    have h1 : okT t = true ∧ okT u = true := by simpa [okT] using h
    rw [isTest_eq, tparts_enc _ h]
    simp [kidsT, isTest_enc t h1.1, isTest_enc u h1.2]
theorem isProg_enc : ∀ p : Pr, okP p = true → isProg (encP p) = true
  | .skip, h => by rw [isProg_eq, pparts_enc _ h] <;> rfl
  | .stop, h => by rw [isProg_eq, pparts_enc _ h] <;> rfl
  | .deed s, h => by rw [isProg_eq, pparts_enc _ h] <;> rfl
  | .assume t, h => by
    rw [isProg_eq, pparts_enc _ h]
    simp [kidsP, testsP, isTest_enc t h]
  | .thn p q, h => by
    have h1 : okP p = true ∧ okP q = true := by simpa [okP] using h
    rw [isProg_eq, pparts_enc _ h]
    simp [kidsP, testsP, isProg_enc p h1.1, isProg_enc q h1.2]
  | .cho p q, h => by
    have h1 : okP p = true ∧ okP q = true := by simpa [okP] using h
    rw [isProg_eq, pparts_enc _ h]
    simp [kidsP, testsP, isProg_enc p h1.1, isProg_enc q h1.2]
  | .loop p, h => by
    rw [isProg_eq, pparts_enc _ h]
    simp [kidsP, testsP, isProg_enc p h]
  | .ite t p q, h => by
    have h1 : (okT t = true ∧ okP p = true) ∧ okP q = true := by simpa [okP] using h
    rw [isProg_eq, pparts_enc _ h]
    simp [kidsP, testsP, isProg_enc p h1.1.2, isProg_enc q h1.2, isTest_enc t h1.1.1]
  | .whl t p, h => by
    have h1 : okT t = true ∧ okP p = true := by simpa [okP] using h
    rw [isProg_eq, pparts_enc _ h]
    simp [kidsP, testsP, isProg_enc p h1.2, isTest_enc t h1.1]
  | .rep p t, h => by
    have h1 : okP p = true ∧ okT t = true := by simpa [okP] using h
    rw [isProg_eq, pparts_enc _ h]
    simp [kidsP, testsP, isProg_enc p h1.1, isTest_enc t h1.2]
/-! ### sizes -/
def szT : Te → Nat
  | .no t => szT t + 1
  | .an t u => szT t + szT u + 1
  | .og t u => szT t + szT u + 1
  | _ => 1
def nmT : Te → Nat
  | .nm _ => 1
  | .no t => nmT t
  | .an t u => nmT t + nmT u
  | .og t u => nmT t + nmT u
  | _ => 0
/-- programs, deeds, tests, names in a program -/
def nP : Pr → Nat
  | .thn p q => nP p + nP q + 1
  | .cho p q => nP p + nP q + 1
  | .loop p => nP p + 1
  | .ite _ p q => nP p + nP q + 1
  | .whl _ p => nP p + 1
  | .rep p _ => nP p + 1
  | _ => 1
def dP : Pr → Nat
  | .deed _ => 1
  | .thn p q => dP p + dP q
  | .cho p q => dP p + dP q
  | .loop p => dP p
  | .ite _ p q => dP p + dP q
  | .whl _ p => dP p
  | .rep p _ => dP p
  | _ => 0
def tP : Pr → Nat
  | .assume t => szT t
  | .thn p q => tP p + tP q
  | .cho p q => tP p + tP q
  | .loop p => tP p
  | .ite t p q => szT t + tP p + tP q
  | .whl t p => szT t + tP p
  | .rep p t => tP p + szT t
  | _ => 0
def mP : Pr → Nat
  | .assume t => nmT t
  | .thn p q => mP p + mP q
  | .cho p q => mP p + mP q
  | .loop p => mP p
  | .ite t p q => nmT t + mP p + mP q
  | .whl t p => nmT t + mP p
  | .rep p t => mP p + nmT t
  | _ => 0
/-- the weight -/
def wt (p : Pr) : Nat × Nat × Nat := (nP p + tP p, dP p, mP p)
def sumBy {α : Type} (f : α → Nat) (l : List α) : Nat := (l.map f).sum
theorem sumBy_append {α : Type} (f : α → Nat) (a b : List α) : sumBy f (a ++ b) = sumBy f a + sumBy f b := by
  unfold sumBy
  rw [List.map_append, List.sum_append]
theorem sumBy_one {α : Type} (f : α → Nat) (a : α) : sumBy f [a] = f a := by simp [sumBy]
def isDeed : Pr → Bool
  | .deed _ => true
  | _ => false
def isNm : Te → Bool
  | .nm _ => true
  | _ => false
theorem szT_eq (t : Te) : szT t = sumBy szT (kidsT t) + 1 := by cases t <;> simp [szT, kidsT, sumBy]
theorem nmT_eq (t : Te) : nmT t = sumBy nmT (kidsT t) + (if isNm t then 1 else 0) := by cases t <;> simp [nmT, kidsT, sumBy, isNm]
theorem nP_eq (p : Pr) : nP p = sumBy nP (kidsP p) + 1 := by cases p <;> simp [nP, kidsP, sumBy]
theorem dP_eq (p : Pr) : dP p = sumBy dP (kidsP p) + (if isDeed p then 1 else 0) := by cases p <;> simp [dP, kidsP, sumBy, isDeed]
theorem tP_eq (p : Pr) : tP p = sumBy tP (kidsP p) + sumBy szT (testsP p) := by cases p <;> simp [tP, kidsP, testsP, sumBy] <;> omega
theorem mP_eq (p : Pr) : mP p = sumBy mP (kidsP p) + sumBy nmT (testsP p) := by cases p <;> simp [mP, kidsP, testsP, sumBy] <;> omega
theorem szT_sz : ∀ t : Te, sz (encT t) ≤ 3 * szT t
  | .tr => by simp [encT, sz, szs, szT]
  | .fa => by simp [encT, sz, szs, szT]
  | .nm s => by simp [encT, sz, szs, szT]
  | .no t => by
    have := szT_sz t
    simp only [encT, sz, szs, szT]
    omega
  | .an t u => by
    have := szT_sz t
    have := szT_sz u
    simp only [encT, sz, szs, szT]
    omega
  | .og t u => by
    have := szT_sz t
    have := szT_sz u
    simp only [encT, sz, szs, szT]
    omega
theorem szP_sz : ∀ p : Pr, sz (encP p) ≤ 3 * (nP p + tP p)
  | .skip => by simp [encP, sz, szs, nP, tP]
  | .stop => by simp [encP, sz, szs, nP, tP]
  | .deed s => by simp [encP, sz, szs, nP, tP]
  | .assume t => by
    have := szT_sz t
    simp only [encP, sz, szs, nP, tP]
    omega
  | .thn p q => by
    have := szP_sz p
    have := szP_sz q
    simp only [encP, sz, szs, nP, tP]
    omega
  | .cho p q => by
    have := szP_sz p
    have := szP_sz q
    simp only [encP, sz, szs, nP, tP]
    omega
  | .loop p => by
    have := szP_sz p
    simp only [encP, sz, szs, nP, tP]
    omega
  | .ite t p q => by
    have := szP_sz p
    have := szP_sz q
    have := szT_sz t
    simp only [encP, sz, szs, nP, tP]
    omega
  | .whl t p => by
    have := szP_sz p
    have := szT_sz t
    simp only [encP, sz, szs, nP, tP]
    omega
  | .rep p t => by
    have := szP_sz p
    have := szT_sz t
    simp only [encP, sz, szs, nP, tP]
    omega
/-- a stack of what e codes: its last item -/
theorem AtAll.lastE {H : Hp} {α : Type} {e : α → D} {ps : List α} {us : List V} (a : AtAll H (ps.map e) us) (h : 0 < us.length) :
    ∃ ps' p u, ps = ps' ++ [p] ∧ us[us.length - 1]? = some u ∧ At H (e p) u ∧ AtAll H (ps'.map e) us.dropLast := by
  obtain ⟨k, u, ek, hu, au⟩ := a.last h
  have hl := a.length
  rw [List.length_map] at hl
  rcases List.eq_nil_or_concat ps with e0 | ⟨ps', p, e0⟩
  · subst e0
    simp at hl
    omega
  · have e1 : ps = ps' ++ [p] := by rw [e0, List.concat_eq_append]
    subst e1
    rw [List.map_append, List.map_cons, List.map_nil, List.dropLast_concat] at ek
    have e2 := List.append_cancel_left ek
    cases e2
    refine ⟨ps', p, u, rfl, hu, au, ?_⟩
    have z := a.dropLast
    rw [List.map_append, List.map_cons, List.map_nil, List.dropLast_concat] at z
    exact z
/-- what a coded program looks like: a tuple that begins with a text -/
theorem encP_head (p : Pr) : ∃ h r, encP p = .tup (.text h :: r) ∧ (h == ("deed" : Str)) = isDeed p := by
  cases p <;> exact ⟨_, _, rfl, rfl⟩
theorem encT_head (t : Te) : ∃ h r, encT t = .tup (.text h :: r) ∧ (h == ("name" : Str)) = isNm t := by
  cases t <;> exact ⟨_, _, rfl, rfl⟩
theorem At.head {H : Hp} {h : Str} {r : List D} {v : V} (a : At H (.tup (.text h :: r)) v) : ∃ p xs, v = .ref p ∧ H p = some (.tup (.str h :: xs)) ∧ AtAll H r xs := by
  cases a with
  | tup e q =>
    cases q with
    | cons a1 q1 =>
      cases a1
      exact ⟨_, _, rfl, e, q1⟩
end K46

set_option Elab.async false
set_option linter.all false
set_option maxRecDepth 100000
set_option maxHeartbeats 4000000
/-! trees.py: all_parts. -/
namespace K46
open PySem PySem.Spec PyProof.Rows L2
abbrev sAllParts : Stmt := topS 15
def one01 (b : Bool) : Nat := if b then 1 else 0
theorem sumBy_map_len {α : Type} {f : α → Nat} (h : ∀ a, 1 ≤ f a) : ∀ l : List α, l.length ≤ sumBy f l
  | [] => by simp
  | x :: l => by
    have h1 := sumBy_map_len h l
    have h2 := h x
    unfold sumBy at h1 ⊢
    rw [List.map_cons, List.sum_cons, List.length_cons]
    omega
theorem nP_pos (p : Pr) : 1 ≤ nP p := by rw [nP_eq]; omega
theorem szT_pos (t : Te) : 1 ≤ szT t := by rw [szT_eq]; omega
section
variable {P : Program} {w : World} {K : PySem.W.Frag} {mg : Str → Option Value} {base : Heap}
def spAllParts : Sp := fun vs H Q _ => ∃ (p : Pr) (v : V) (lp lt : Addr), vs = [.ref lp, .ref lt] ∧ H lp = some (.lst [v]) ∧ H lt = some (.lst []) ∧ At H (encP p) v ∧ okP p = true ∧ nP p + tP p ≤ 300 ∧
  ∀ H' q l1 l2 us ws (xs : List Pr) (ys : List Te), Same H H' → H' q = some (.lst [.ref l1, .ref l2]) → H' l1 = some (.lst us) → H' l2 = some (.lst ws) → AtAll H' (xs.map encP) us → AtAll H' (ys.map encT) ws →
    xs.length = nP p → ys.length = tP p → sumBy (fun x => one01 (isDeed x)) xs = dP p → sumBy (fun x => one01 (isNm x)) ys = mP p → Q (.ref q) H'
theorem scAP : FnScope ["programs", "tests", "found", "waiting", "here", "parts"] ["programs", "tests"] (defScope sAllParts) := ⟨rfl, rfl, rfl, by decide +kernel, rfl, by decide +kernel, by decide +kernel⟩
theorem ok_allParts {f fP fT : Addr} {fd fdP fdT : FuncData} (F : Fun K "all_parts" "all_parts" sAllParts f fd) (GP : FnOk P w K mg base CX0 2 fP fdP ["value"] spPParts) (kP : PySem.W.keepIn K (.ref fP) = true) (GT : FnOk P w K mg base CX0 2 fT fdT ["value"] spTParts) (kT : PySem.W.keepIn K (.ref fT) = true) (B : Blt mg)
    (gP : mg "program_parts" = some (.ref fP)) (bP : Binds K fdP ["value"] []) (gT : mg "test_parts" = some (.ref fT)) (bT : Binds K fdT ["value"] []) : FnOk P w K mg base CX0 3 f fd ["programs", "tests"] spAllParts := by
  refine F.ok scAP (fun vs H Q E h => ?_) (fun cdv A outer s H vs Q E hr h => ?_)
  · obtain ⟨p, v, lp, lt, rfl, _⟩ := h
    rfl
  · obtain ⟨p, v, lp, lt, rfl, hlp, hlt, hd, hok, hz, q⟩ := h
    refine ⟨_, pss_cons (ps_par (i := 2) (j := 3) (by rfl) scAP.nd rfl rfl (by decide) rfl rfl (pa_cons (pe_lst (pa_cons (pe_lst pa_nil) (pa_cons (pe_lst pa_nil) pa_nil))) (pa_cons (pe_callTy call_list_of (by rfl) B.list (by decide +kernel) (pa_cons (pv 0) pa_nil)) pa_nil)) (by rfl))
      (pss_cons (ps_while PassesOwn.never (pt_cmpR op_gt (pe_callB call_len_seq (by rfl) B.len PySem.boot_len (pa_cons (pv 3) pa_nil)) pe_int (nomark _))
        (pss_cons (ps_set (i := 4) scAP.nd rfl (.inl rfl) (pe_bm0 PySem.F.plainAttrs_list PySem.F.slot_list_pop PySem.F.type_list_pop mt_pop (pv 3)))
        (pss_cons (ps_expr (pe_bm PySem.F.plainAttrs_list PySem.F.slot_list_append PySem.F.type_list_append mt_append (pe_ix ix_list (pv 2) pe_int (fun _ _ => rfl)) (pa_cons (pv 4) pa_nil)))
        (pss_cons (ps_set (i := 5) scAP.nd rfl (.inl rfl) (pe_call GP hr (by rfl) gP kP bP .nil pass0 (pa_cons (pv 4) pa_nil)))
        (pss_cons (ps_expr (pe_bm PySem.F.plainAttrs_list PySem.F.slot_list_extend PySem.F.type_list_extend mt_extend (pv 3) (pa_cons (pe_ix ix_tup (pv 5) pe_int (fun _ _ => rfl)) pa_nil)))
        (pss_one (ps_set (i := 1) scAP.nd rfl (.inl rfl) (pe_op op_cat (pe_callTy call_list_of (by rfl) B.list (by decide +kernel) (pa_cons (pv 1) pa_nil)) (pe_ix ix_tup (pv 5) pe_int (fun _ _ => rfl))))))))))
      (pss_cons (ps_set (i := 3) scAP.nd rfl (.inl rfl) (pe_callTy call_list_of (by rfl) B.list (by decide +kernel) (pa_cons (pv 1) pa_nil)))
      (pss_cons (ps_while PassesOwn.never (pt_cmpR op_gt (pe_callB call_len_seq (by rfl) B.len PySem.boot_len (pa_cons (pv 3) pa_nil)) pe_int (nomark _))
        (pss_cons (ps_set (i := 4) scAP.nd rfl (.inl rfl) (pe_bm0 PySem.F.plainAttrs_list PySem.F.slot_list_pop PySem.F.type_list_pop mt_pop (pv 3)))
        (pss_cons (ps_expr (pe_bm PySem.F.plainAttrs_list PySem.F.slot_list_append PySem.F.type_list_append mt_append (pe_ix ix_list (pv 2) pe_int (fun _ _ => rfl)) (pa_cons (pv 4) pa_nil)))
        (pss_one (ps_expr (pe_bm PySem.F.plainAttrs_list PySem.F.slot_list_extend PySem.F.type_list_extend mt_extend (pv 3) (pa_cons (pe_call GT hr (by rfl) gT kT bT .nil pass0 (pa_cons (pv 4) pa_nil)) pa_nil)))))))
      (pss_one (ps_ret (pv 2)))))), ?_⟩
    have sl : ∀ n : Nat, n ≤ 1000 → n ≤ sizeLine := fun n h => Nat.le_of_lt (small1000 h)
    -- found, waiting = [[], []], list(programs)
    refine ⟨sl 0 (by decide), fun l1 n1 => ⟨sl 0 (by decide), fun l2 n2 => ⟨sl 2 (by decide), fun fo nf => ⟨_, rfl, lp, [v], rfl, .inl (SqL.of ?_), fun wt nw => ?_⟩⟩⟩⟩
    · exact same_new nf _ _ (same_new n2 _ _ (same_new n1 _ _ hlp))
    have t1 : Same H (upd H l1 (.lst [])) := same_new n1
    have t2 := same_new (H := upd H l1 (.lst [])) (o := .lst []) n2
    have t3 := same_new (H := upd (upd H l1 (.lst [])) l2 (.lst [])) (o := .lst [.ref l1, .ref l2]) nf
    have t4 := same_new (H := upd (upd (upd H l1 (.lst [])) l2 (.lst [])) fo (.lst [.ref l1, .ref l2])) (o := .lst [v]) nw
    have s0 := t1.trans (t2.trans (t3.trans t4))
    have f2 : H l2 = none := t1.free n2
    have f3 : H fo = none := t1.free (t2.free nf)
    have f4 : H wt = none := t1.free (t2.free (t3.free nw))
    have a12 : l1 ≠ l2 := ne_of_none (upd_same (H := H) (a := l1) (o := .lst [])) n2
    have a1f : l1 ≠ fo := ne_of_none (t2 _ _ (upd_same (H := H) (a := l1) (o := .lst []))) nf
    have a2f : l2 ≠ fo := ne_of_none (upd_same (H := upd H l1 (.lst [])) (a := l2) (o := .lst [])) nf
    have a1w : l1 ≠ wt := ne_of_none (t3 _ _ (t2 _ _ (upd_same (H := H) (a := l1) (o := .lst [])))) nw
    have a2w : l2 ≠ wt := ne_of_none (t3 _ _ (upd_same (H := upd H l1 (.lst [])) (a := l2) (o := .lst []))) nw
    have afw : fo ≠ wt := ne_of_none (upd_same (H := upd (upd H l1 (.lst [])) l2 (.lst [])) (a := fo) (o := .lst [.ref l1, .ref l2])) nw
    refine ⟨_, _, rfl, ?_⟩
    refine ⟨fun m σ H' => ∃ (ks xs : List Pr) (ts : List Te) (us ws zs : List V) (tl : Addr) (x4 x5 : Option V), σ = [some (.ref lp), some (.ref tl), some (.ref fo), some (.ref wt), x4, x5] ∧ m = sumBy nP ks ∧ Same H H' ∧
        H' fo = some (.lst [.ref l1, .ref l2]) ∧ H' l1 = some (.lst us) ∧ H' l2 = some (.lst []) ∧ H' wt = some (.lst ws) ∧ H' tl = some (.lst zs) ∧ tl ≠ wt ∧ tl ≠ l1 ∧
        AtAll H' (ks.map encP) ws ∧ AtAll H' (xs.map encP) us ∧ AtAll H' (ts.map encT) zs ∧ (∀ k ∈ ks, okP k = true) ∧ (∀ t ∈ ts, okT t = true) ∧
        xs.length + sumBy nP ks = nP p ∧ sumBy (fun x => one01 (isDeed x)) xs + sumBy dP ks = dP p ∧ sumBy szT ts + sumBy tP ks = tP p ∧ sumBy nmT ts + sumBy mP ks = mP p,
      ⟨_, [p], [], [], [], [v], [], lt, none, none, rfl, rfl, s0, ?_, ?_, ?_, upd_same, s0 _ _ hlt, ne_of_none hlt f4, ne_of_none hlt n1, .cons (hd.tm (TM.same s0)) .nil, .nil, .nil, ?_, ?_, ?_, ?_, ?_, ?_⟩, ?_⟩
    · exact t4 _ _ upd_same
    · exact t4 _ _ (t3 _ _ (t2 _ _ upd_same))
    · exact t4 _ _ (t3 _ _ upd_same)
    · intro k hk
      rw [List.mem_singleton] at hk
      rw [hk]
      exact hok
    · intro t ht
      cases ht
    · simp [sumBy]
    · simp [sumBy]
    · simp [sumBy]
    · simp [sumBy]
    rintro m σ H1 ⟨ks, xs, ts, us, ws, zs, tl, x4, x5, rfl, rfl, s1, ef, e1, e2, ew, et, ntw, nt1, aks, axs, ats, oks, ots, c1, c2, c3, c4⟩
    refine ⟨_, rfl, wt, ws, rfl, .inl (SqL.of ew), _, 0, rfl, rfl, _, rfl, ?_⟩
    refine ite_bl (fun c => ?_) (fun c => ?_)
    · -- a turn of the first loop
      have hlen : 0 < ws.length := by
        have := of_decide_eq_true c
        omega
      obtain ⟨ks', k, u, rfl, hu, au, aks'⟩ := aks.lastE hlen
      have okk : okP k = true := oks k (by simp)
      simp only [sumBy_append, sumBy_one] at c1 c2 c3 c4
      have lk := nP_eq k
      have ldk := dP_eq k
      have ltk := tP_eq k
      have lmk := mP_eq k
      refine ⟨fun σ' H' => ∃ (ks2 xs : List Pr) (ts : List Te) (us ws zs : List V) (tl : Addr) (x4 x5 : Option V), σ' = [some (.ref lp), some (.ref tl), some (.ref fo), some (.ref wt), x4, x5] ∧ sumBy nP ks2 < sumBy nP (ks' ++ [k]) ∧ Same H H' ∧
        H' fo = some (.lst [.ref l1, .ref l2]) ∧ H' l1 = some (.lst us) ∧ H' l2 = some (.lst []) ∧ H' wt = some (.lst ws) ∧ H' tl = some (.lst zs) ∧ tl ≠ wt ∧ tl ≠ l1 ∧
        AtAll H' (ks2.map encP) ws ∧ AtAll H' (xs.map encP) us ∧ AtAll H' (ts.map encT) zs ∧ (∀ k ∈ ks2, okP k = true) ∧ (∀ t ∈ ts, okT t = true) ∧
        xs.length + sumBy nP ks2 = nP p ∧ sumBy (fun x => one01 (isDeed x)) xs + sumBy dP ks2 = dP p ∧ sumBy szT ts + sumBy tP ks2 = tP p ∧ sumBy nmT ts + sumBy mP ks2 = mP p, ?_, ?_⟩
      · rintro σ' H' ⟨ks2, xs2, ts2, us2, ws2, zs2, tl2, y4, y5, r1, r2, r3⟩
        exact ⟨_, r2, ks2, xs2, ts2, us2, ws2, zs2, tl2, y4, y5, r1, rfl, r3⟩
      have lus := axs.length
      rw [List.length_map] at lus
      have lzs := ats.length
      rw [List.length_map] at lzs
      have lts := sumBy_map_len szT_pos ts
      -- here = waiting.pop()
      refine ⟨.ref wt, rfl, .inl ⟨rfl, _, SqL.of ew⟩, wt, ws, u, rfl, rfl, ew, hu, ?_⟩
      have tA : TM H1 (upd H1 wt (.lst ws.dropLast)) := TM.lst ew
      have sA : Same H (upd H1 wt (.lst ws.dropLast)) := same_mut s1 f4
      have efA : (upd H1 wt (.lst ws.dropLast)) fo = some (.lst [.ref l1, .ref l2]) := (upd_ne afw).trans ef
      have e1A : (upd H1 wt (.lst ws.dropLast)) l1 = some (.lst us) := (upd_ne a1w).trans e1
      have e2A : (upd H1 wt (.lst ws.dropLast)) l2 = some (.lst []) := (upd_ne a2w).trans e2
      have ewA : (upd H1 wt (.lst ws.dropLast)) wt = some (.lst ws.dropLast) := upd_same
      have etA : (upd H1 wt (.lst ws.dropLast)) tl = some (.lst zs) := (upd_ne ntw).trans et
      generalize upd H1 wt (.lst ws.dropLast) = HA at tA sA efA e1A e2A ewA etA
      -- found[0].append(here)
      refine ⟨_, rfl, fo, _, 0, .ref l1, rfl, rfl, SqL.of efA, atI_nat (j := 0) rfl, .inl ⟨rfl, _, SqL.of e1A⟩, u, rfl, l1, us, u, rfl, rfl, e1A, small1000 (by omega), ?_⟩
      have tB : TM HA (upd HA l1 (.lst (us ++ [u]))) := TM.lst e1A
      have sB : Same H (upd HA l1 (.lst (us ++ [u]))) := same_mut sA n1
      have efB : (upd HA l1 (.lst (us ++ [u]))) fo = some (.lst [.ref l1, .ref l2]) := (upd_ne a1f.symm).trans efA
      have e1B : (upd HA l1 (.lst (us ++ [u]))) l1 = some (.lst (us ++ [u])) := upd_same
      have e2B : (upd HA l1 (.lst (us ++ [u]))) l2 = some (.lst []) := (upd_ne a12.symm).trans e2A
      have ewB : (upd HA l1 (.lst (us ++ [u]))) wt = some (.lst ws.dropLast) := (upd_ne a1w.symm).trans ewA
      have etB : (upd HA l1 (.lst (us ++ [u]))) tl = some (.lst zs) := (upd_ne nt1).trans etA
      generalize upd HA l1 (.lst (us ++ [u])) = HB at tB sB efB e1B e2B ewB etB
      -- parts = program_parts(here)
      refine ⟨_, rfl, encP k, u, rfl, (au.tm tA).tm tB, fun en => ?_, fun ps qs en HC t p1 p2 ys1 ys2 sC nt np1 np2 n12 ht hp1 hp2 ay1 ay2 => ?_⟩
      · rw [pparts_enc k okk] at en
        cases en
      rw [pparts_enc k okk] at en
      cases en
      have efC := sC _ _ efB
      have e1C := sC _ _ e1B
      have e2C := sC _ _ e2B
      have ewC := sC _ _ ewB
      have etC := sC _ _ etB
      have ly1 := ay1.length
      have ly2 := ay2.length
      have ld := aks'.length
      rw [List.length_map] at ly1 ly2 ld
      have lq1 := sumBy_map_len nP_pos (kidsP k)
      have lq2 := sumBy_map_len szT_pos (testsP k)
      have lq3 := sumBy_map_len nP_pos ks'
      -- waiting.extend(parts[0])
      refine ⟨_, rfl, .inl ⟨rfl, _, SqL.of ewC⟩, _, rfl, t, _, 0, .ref p1, rfl, rfl, SqT.of ht, atI_nat (j := 0) rfl, wt, p1, _, ys1, rfl, rfl, ewC, hp1, sl _ (by omega), ?_⟩
      have nw1 : p1 ≠ wt := (ne_of_none ewB np1).symm
      have nw2 : p2 ≠ wt := (ne_of_none ewB np2).symm
      have nwt : t ≠ wt := (ne_of_none ewB nt).symm
      have tD : TM HC (upd HC wt (.lst (ws.dropLast ++ ys1))) := TM.lst ewC
      have sD : Same H (upd HC wt (.lst (ws.dropLast ++ ys1))) := same_mut (sB.trans sC) f4
      have efD : (upd HC wt (.lst (ws.dropLast ++ ys1))) fo = some (.lst [.ref l1, .ref l2]) := (upd_ne afw).trans efC
      have e1D : (upd HC wt (.lst (ws.dropLast ++ ys1))) l1 = some (.lst (us ++ [u])) := (upd_ne a1w).trans e1C
      have e2D : (upd HC wt (.lst (ws.dropLast ++ ys1))) l2 = some (.lst []) := (upd_ne a2w).trans e2C
      have ewD : (upd HC wt (.lst (ws.dropLast ++ ys1))) wt = some (.lst (ws.dropLast ++ ys1)) := upd_same
      have etD : (upd HC wt (.lst (ws.dropLast ++ ys1))) tl = some (.lst zs) := (upd_ne ntw).trans etC
      have hp2D : (upd HC wt (.lst (ws.dropLast ++ ys1))) p2 = some (.lst ys2) := (upd_ne nw2).trans hp2
      have htD : (upd HC wt (.lst (ws.dropLast ++ ys1))) t = some (.tup [.ref p1, .ref p2]) := (upd_ne nwt).trans ht
      generalize upd HC wt (.lst (ws.dropLast ++ ys1)) = HD at tD sD efD e1D e2D ewD etD hp2D htD
      -- tests = list(tests) + parts[1]
      refine ⟨_, rfl, tl, zs, rfl, .inl (SqL.of etD), fun d1 nd1 => ?_⟩
      have sE : Same HD (upd HD d1 (.lst zs)) := same_new nd1
      refine ⟨_, rfl, t, _, 1, .ref p2, rfl, rfl, SqT.of (sE _ _ htD), atI_nat (j := 1) rfl, d1, p2, zs, ys2, rfl, rfl, upd_same, sE _ _ hp2D, sl _ (by omega), fun d2 nd2 => ?_⟩
      have sF : Same (upd HD d1 (.lst zs)) (upd (upd HD d1 (.lst zs)) d2 (.lst (zs ++ ys2))) := same_new nd2
      have sEF := sE.trans sF
      have toF : TM H1 (upd (upd HD d1 (.lst zs)) d2 (.lst (zs ++ ys2))) := tA.trans (tB.trans ((TM.same sC).trans (tD.trans (TM.same sEF))))
      have toC : TM HC (upd (upd HD d1 (.lst zs)) d2 (.lst (zs ++ ys2))) := tD.trans (TM.same sEF)
      have n2w : d2 ≠ wt := (ne_of_none (sE _ _ ewD) nd2).symm
      have n21 : d2 ≠ l1 := (ne_of_none (sE _ _ e1D) nd2).symm
      refine ⟨ks' ++ kidsP k, xs ++ [k], ts ++ testsP k, us ++ [u], ws.dropLast ++ ys1, zs ++ ys2, d2, _, _, rfl, ?_, sD.trans sEF, sEF _ _ efD, sEF _ _ e1D, sEF _ _ e2D, sEF _ _ ewD, upd_same, n2w, n21, ?_, ?_, ?_, ?_, ?_, ?_, ?_, ?_, ?_⟩
      · simp only [sumBy_append, sumBy_one]
        omega
      · rw [List.map_append]
        exact (aks'.tm toF).append (ay1.tm toC)
      · rw [List.map_append]
        exact (axs.tm toF).append (.cons (au.tm toF) .nil)
      · rw [List.map_append]
        exact (ats.tm toF).append (ay2.tm toC)
      · intro j hj
        rcases List.mem_append.mp hj with hj | hj
        · exact oks j (by simp [hj])
        · exact kidsP_ok okk j hj
      · intro j hj
        rcases List.mem_append.mp hj with hj | hj
        · exact ots j hj
        · exact testsP_ok okk j hj
      · rw [List.length_append, sumBy_append]
        simp only [List.length_cons, List.length_nil]
        omega
      · simp only [sumBy_append, sumBy_one]
        show _ + (if isDeed k = true then 1 else 0) + _ = _
        omega
      · simp only [sumBy_append]
        omega
      · simp only [sumBy_append]
        omega
    -- the second loop
    have hnil : ws = [] := by
      have := of_decide_eq_false c
      cases ws with
      | nil => rfl
      | cons _ _ =>
        simp only [List.length_cons] at this
        omega
    subst hnil
    have kn : ks = [] := by
      have := aks.length
      rw [List.length_map] at this
      cases ks with
      | nil => rfl
      | cons _ _ => simp at this
    subst kn
    simp only [sumBy, List.map_nil, List.sum_nil, Nat.add_zero] at c1 c2 c3 c4
    refine ⟨_, rfl, tl, zs, rfl, .inl (SqL.of et), fun wt2 nw2 => ?_⟩
    have u1 : Same H1 (upd H1 wt2 (.lst zs)) := same_new nw2
    have f5 : H wt2 = none := s1.free nw2
    have b1w : l1 ≠ wt2 := ne_of_none e1 nw2
    have b2w : l2 ≠ wt2 := ne_of_none e2 nw2
    have bfw : fo ≠ wt2 := ne_of_none ef nw2
    refine ⟨fun m σ H' => ∃ (ks ys : List Te) (us2 ws : List V) (x4 : Option V), σ = [some (.ref lp), some (.ref tl), some (.ref fo), some (.ref wt2), x4, x5] ∧ m = sumBy szT ks ∧ Same H H' ∧ TM H1 H' ∧
        H' fo = some (.lst [.ref l1, .ref l2]) ∧ H' l1 = some (.lst us) ∧ H' l2 = some (.lst us2) ∧ H' wt2 = some (.lst ws) ∧
        AtAll H' (ks.map encT) ws ∧ AtAll H' (ys.map encT) us2 ∧ (∀ k ∈ ks, okT k = true) ∧
        ys.length + sumBy szT ks = tP p ∧ sumBy (fun x => one01 (isNm x)) ys + sumBy nmT ks = mP p,
      ⟨_, ts, [], [], zs, x4, rfl, rfl, s1.trans u1, TM.same u1, u1 _ _ ef, u1 _ _ e1, u1 _ _ e2, upd_same, ats.tm (TM.same u1), .nil, ots, ?_, ?_⟩, ?_⟩
    · simpa [sumBy] using c3
    · simpa [sumBy] using c4
    rintro m σ H2 ⟨ks, ys, us2, ws, x4', rfl, rfl, s2, m2, ef2, e12, e22, ew2, aks2, ays2, oks2, d1, d2⟩
    refine ⟨_, rfl, wt2, ws, rfl, .inl (SqL.of ew2), _, 0, rfl, rfl, _, rfl, ?_⟩
    refine ite_bl (fun c => ?_) (fun c => ?_)
    · have hlen : 0 < ws.length := by
        have := of_decide_eq_true c
        omega
      obtain ⟨ks', k, u, rfl, hu, au, aks'⟩ := aks2.lastE hlen
      have okk : okT k = true := oks2 k (by simp)
      simp only [sumBy_append, sumBy_one] at d1 d2
      have lk := szT_eq k
      have ldk := nmT_eq k
      refine ⟨fun σ H' => ∃ (ks2 ys : List Te) (us2 ws : List V) (x4 : Option V), σ = [some (.ref lp), some (.ref tl), some (.ref fo), some (.ref wt2), x4, x5] ∧ sumBy szT ks2 < sumBy szT (ks' ++ [k]) ∧ Same H H' ∧ TM H1 H' ∧
        H' fo = some (.lst [.ref l1, .ref l2]) ∧ H' l1 = some (.lst us) ∧ H' l2 = some (.lst us2) ∧ H' wt2 = some (.lst ws) ∧
        AtAll H' (ks2.map encT) ws ∧ AtAll H' (ys.map encT) us2 ∧ (∀ k ∈ ks2, okT k = true) ∧
        ys.length + sumBy szT ks2 = tP p ∧ sumBy (fun x => one01 (isNm x)) ys + sumBy nmT ks2 = mP p, ?_, ?_⟩
      · rintro σ' H' ⟨ks2, ys2, us3, ws3, y4, r1, r2, r3⟩
        exact ⟨_, r2, ks2, ys2, us3, ws3, y4, r1, rfl, r3⟩
      have lus := ays2.length
      rw [List.length_map] at lus
      have l12 : l1 ≠ l2 := a12
      refine ⟨.ref wt2, rfl, .inl ⟨rfl, _, SqL.of ew2⟩, wt2, ws, u, rfl, rfl, ew2, hu, ?_⟩
      have tA : TM H2 (upd H2 wt2 (.lst ws.dropLast)) := TM.lst ew2
      have sA : Same H (upd H2 wt2 (.lst ws.dropLast)) := same_mut s2 f5
      have efA : (upd H2 wt2 (.lst ws.dropLast)) fo = some (.lst [.ref l1, .ref l2]) := (upd_ne bfw).trans ef2
      have e1A : (upd H2 wt2 (.lst ws.dropLast)) l1 = some (.lst us) := (upd_ne b1w).trans e12
      have e2A : (upd H2 wt2 (.lst ws.dropLast)) l2 = some (.lst us2) := (upd_ne b2w).trans e22
      have ewA : (upd H2 wt2 (.lst ws.dropLast)) wt2 = some (.lst ws.dropLast) := upd_same
      generalize upd H2 wt2 (.lst ws.dropLast) = HA at tA sA efA e1A e2A ewA
      refine ⟨_, rfl, fo, _, 1, .ref l2, rfl, rfl, SqL.of efA, atI_nat (j := 1) rfl, .inl ⟨rfl, _, SqL.of e2A⟩, u, rfl, l2, us2, u, rfl, rfl, e2A, small1000 (by omega), ?_⟩
      have tB : TM HA (upd HA l2 (.lst (us2 ++ [u]))) := TM.lst e2A
      have sB : Same H (upd HA l2 (.lst (us2 ++ [u]))) := same_mut sA f2
      have efB : (upd HA l2 (.lst (us2 ++ [u]))) fo = some (.lst [.ref l1, .ref l2]) := (upd_ne a2f.symm).trans efA
      have e1B : (upd HA l2 (.lst (us2 ++ [u]))) l1 = some (.lst us) := (upd_ne a12).trans e1A
      have e2B : (upd HA l2 (.lst (us2 ++ [u]))) l2 = some (.lst (us2 ++ [u])) := upd_same
      have ewB : (upd HA l2 (.lst (us2 ++ [u]))) wt2 = some (.lst ws.dropLast) := (upd_ne b2w.symm).trans ewA
      generalize upd HA l2 (.lst (us2 ++ [u])) = HB at tB sB efB e1B e2B ewB
      -- waiting.extend(test_parts(here))
      refine ⟨_, rfl, .inl ⟨rfl, _, SqL.of ewB⟩, _, rfl, encT k, u, rfl, (au.tm tA).tm tB, fun en => ?_, fun ps en HC pl ys1 sC np hp ay => ?_⟩
      · rw [tparts_enc k okk] at en
        cases en
      rw [tparts_enc k okk] at en
      cases en
      have efC := sC _ _ efB
      have e1C := sC _ _ e1B
      have e2C := sC _ _ e2B
      have ewC := sC _ _ ewB
      have ly := ay.length
      have ld := aks'.length
      rw [List.length_map] at ly ld
      have lq1 := sumBy_map_len szT_pos (kidsT k)
      have lq3 := sumBy_map_len szT_pos ks'
      refine ⟨wt2, pl, _, ys1, rfl, rfl, ewC, hp, sl _ (by omega), ?_⟩
      have tD : TM HC (upd HC wt2 (.lst (ws.dropLast ++ ys1))) := TM.lst ewC
      have toD := tA.trans (tB.trans ((TM.same sC).trans tD))
      refine ⟨ks' ++ kidsT k, ys ++ [k], us2 ++ [u], ws.dropLast ++ ys1, _, rfl, ?_, same_mut (sB.trans sC) f5, m2.trans toD, (upd_ne bfw).trans efC, (upd_ne b1w).trans e1C, (upd_ne b2w).trans e2C, upd_same, ?_, ?_, ?_, ?_, ?_⟩
      · simp only [sumBy_append, sumBy_one]
        omega
      · rw [List.map_append]
        exact (aks'.tm toD).append (ay.tm tD)
      · rw [List.map_append]
        exact (ays2.tm toD).append (.cons (au.tm toD) .nil)
      · intro j hj
        rcases List.mem_append.mp hj with hj | hj
        · exact oks2 j (by simp [hj])
        · exact kidsT_ok okk j hj
      · rw [List.length_append, sumBy_append]
        simp only [List.length_cons, List.length_nil]
        omega
      · simp only [sumBy_append, sumBy_one]
        show _ + (if isNm k = true then 1 else 0) + _ = _
        omega
    have hnil : ws = [] := by
      have := of_decide_eq_false c
      cases ws with
      | nil => rfl
      | cons _ _ =>
        simp only [List.length_cons] at this
        omega
    subst hnil
    have kn : ks = [] := by
      have := aks2.length
      rw [List.length_map] at this
      cases ks with
      | nil => rfl
      | cons _ _ => simp at this
    subst kn
    simp only [sumBy, List.map_nil, List.sum_nil, Nat.add_zero] at d1 d2
    refine ⟨_, rfl, q H2 fo l1 l2 us us2 xs ys s2 ef2 e12 e22 (axs.tm m2) ays2 c1 d1 c2 d2⟩
end
end K46

set_option Elab.async false
set_option linter.all false
set_option maxRecDepth 100000
set_option maxHeartbeats 4000000
/-! changes.py: weight_of. -/
namespace K46
open PySem PySem.Spec PyProof.Rows L2
abbrev sWeightOf : Stmt := topS 17
def wtD (w : Nat × Nat × Nat) : List V := [.int (w.1 : Nat), .int (w.2.1 : Nat), .int (w.2.2 : Nat)]
theorem filter_len {α : Type} (f : α → Bool) : ∀ l : List α, (l.filter f).length = sumBy (fun x => one01 (f x)) l
  | [] => rfl
  | x :: l => by
    have ih := filter_len f l
    unfold sumBy at ih ⊢
    rw [List.map_cons, List.sum_cons, ← ih, List.filter_cons]
    cases f x with
    | true =>
      show (x :: l.filter f).length = _
      simp [one01]
      omega
    | false =>
      show (l.filter f).length = _
      simp [one01]
theorem take_filter {α : Type} {f : α → Bool} {l : List α} {i : Nat} {x : α} (h : l[i]? = some x) : (l.take (i + 1)).filter f = (l.take i).filter f ++ (if f x = true then [x] else []) := by
  rw [take_more h, List.filter_append]
  congr 1
  cases e : f x <;> simp [e]
theorem getE {H : Hp} {α : Type} {e : α → D} {ps : List α} {us : List V} {i : Nat} {v : V} (a : AtAll H (ps.map e) us) (h : us[i]? = some v) : ∃ p, ps[i]? = some p ∧ At H (e p) v := by
  obtain ⟨k, hk, ak⟩ := a.get h
  rw [List.getElem?_map] at hk
  cases hp : ps[i]? with
  | none => rw [hp] at hk; cases hk
  | some p =>
    rw [hp] at hk
    cases hk
    exact ⟨p, rfl, ak⟩
section
variable {P : Program} {w : World} {K : PySem.W.Frag} {mg : Str → Option Value} {base : Heap}
def spWeightOf : Sp := fun vs H Q _ => ∃ (p : Pr) (v : V), vs = [v] ∧ At H (encP p) v ∧ okP p = true ∧ nP p + tP p ≤ 300 ∧ ∀ H' t, Same H H' → H t = none → H' t = some (.tup (wtD (wt p))) → Q (.ref t) H'
theorem scWO : FnScope ["program", "programs", "tests", "deeds", "one", "test"] ["program"] (defScope sWeightOf) := ⟨rfl, rfl, rfl, by decide +kernel, rfl, by decide +kernel, by decide +kernel⟩
theorem ok_weightOf {f fA : Addr} {fd fdA : FuncData} (F : Fun K "weight_of" "weight_of" sWeightOf f fd) (GA : FnOk P w K mg base CX0 3 fA fdA ["programs", "tests"] spAllParts) (kA : PySem.W.keepIn K (.ref fA) = true) (B : Blt mg)
    (gA : mg "all_parts" = some (.ref fA)) (bA : Binds K fdA ["programs", "tests"] []) : FnOk P w K mg base CX0 4 f fd ["program"] spWeightOf := by
  refine F.ok scWO (fun vs H Q E h => ?_) (fun cdv A outer s H vs Q E hr h => ?_)
  · obtain ⟨p, v, rfl, _⟩ := h
    rfl
  · obtain ⟨p, v, rfl, hd, hok, hz, q⟩ := h
    refine ⟨_, pss_cons (ps_asg (pe_call GA hr (by rfl) gA kA bA .nil pass0 (pa_cons (pe_lst (pa_cons (pv 0) pa_nil)) (pa_cons (pe_lst pa_nil) pa_nil))) (pg_unl rfl (pgs_cons (pg_name (i := 1) scWO.nd rfl (.inl rfl)) (pgs_cons (pg_name (i := 2) scWO.nd rfl (.inl rfl)) pgs_nil))))
      (pss_cons (ps_setLc (i := 3) (own := [("one", 4)]) (g := gName 4) (tt := tTest (tOp rEq (tOp (rIxT K) (tVar 4) (tC (.int 0))) (tC (.str "deed")))) (te := tVar 4) rfl scWO.nd rfl rfl (sw_true rfl rfl rfl (by decide +kernel)) (pi_list (pv 1)) (blkOk_by (N := ["program", "programs", "tests", "deeds", "one", "test"]) (sc := defScope sWeightOf) (by decide +kernel)) (fun _ _ _ _ _ => pg_name (i := 4) scWO.nd rfl (Or.inl rfl))
          (fun _ _ _ _ _ => pts_one (pt_cmpR op_eq (pe_ix ix_tup (pv 4) pe_int (fun _ _ => rfl)) pe_str (nomark _))) (fun _ _ _ _ _ => pv 4))
      (pss_one (ps_ret (pe_tup (pa_cons (pe_op op_add (pe_callB call_len_seq (by rfl) B.len PySem.boot_len (pa_cons (pv 1) pa_nil)) (pe_callB call_len_seq (by rfl) B.len PySem.boot_len (pa_cons (pv 2) pa_nil)))
        (pa_cons (pe_callB call_len_seq (by rfl) B.len PySem.boot_len (pa_cons (pv 3) pa_nil))
        (pa_cons (pe_callB call_len_seq (by rfl) B.len PySem.boot_len (pa_cons
          (pe_lc (own := [("test", 5)]) (g := gName 5) (tt := tTest (tOp rEq (tOp (rIxT K) (tVar 5) (tC (.int 0))) (tC (.str "name")))) (te := tVar 5) rfl scWO.nd (pi_list (pv 2)) (blkOk_by (N := ["program", "programs", "tests", "deeds", "one", "test"]) (sc := defScope sWeightOf) (by decide +kernel)) (fun _ _ _ _ _ => pg_name (i := 5) scWO.nd rfl (Or.inl rfl))
            (fun _ _ _ _ _ => pts_one (pt_cmpR op_eq (pe_ix ix_tup (pv 5) pe_int (fun _ _ => rfl)) pe_str (nomark _))) (fun _ _ _ _ _ => pv 5)) pa_nil)) pa_nil))))))), ?_⟩
    have sl : ∀ n : Nat, n ≤ 1000 → n ≤ sizeLine := fun n h => Nat.le_of_lt (small1000 h)
    refine ⟨v, rfl, sl 1 (by decide), fun p1 n1 => ⟨sl 0 (by decide), fun p2 n2 => ?_⟩⟩
    have s1 : Same H (upd H p1 (.lst [v])) := same_new n1
    have s2 : Same (upd H p1 (.lst [v])) (upd (upd H p1 (.lst [v])) p2 (.lst [])) := same_new n2
    refine ⟨p, v, p1, p2, rfl, s2 _ _ upd_same, upd_same, hd.tm (TM.same (s1.trans s2)), hok, hz, fun H3 q3 l1 l2 us ws xs ys s3 e0 e1 e2 a1 a2 c1 c2 c3 c4 => ?_⟩
    have s03 := s1.trans (s2.trans s3)
    refine ⟨q3, _, rfl, SqL.of e0, rfl, _, _, rfl, _, _, rfl, rfl, ?_⟩
    have lus := a1.length
    rw [List.length_map] at lus
    have lws := a2.length
    rw [List.length_map] at lws
    -- deeds = [one for one in programs if one[0] == 'deed']
    refine ⟨_, rfl, l1, rfl, ⟨_, SqL.of e1⟩, fun D1 nD1 => ?_⟩
    refine lc_list (K := K) (a := l1) (xs := us) (fun i H' => Same H3 H' ∧ ∃ bs : List V, H' D1 = some (.lst bs) ∧ bs.length = ((xs.take i).filter isDeed).length) ⟨same_new nD1, [], upd_same, rfl⟩ (fun i H' _ ⟨sm, _⟩ => SqL.of (sm _ _ e1)) ?_ ?_
    · rintro i x H4 hx ⟨sm, bs, hD, hb⟩
      obtain ⟨k, hk, ak⟩ := getE a1 hx
      obtain ⟨h, r, ek, eh⟩ := encP_head k
      rw [ek] at ak
      obtain ⟨pa, xs', rfl, hpa, _⟩ := (ak.tm (TM.same sm)).head
      have tf := take_filter (f := isDeed) hk
      refine ⟨rfl, _, rfl, pa, _, 0, .str h, rfl, rfl, SqT.of hpa, atI_nat (j := 0) rfl, rfl, _, rfl, ?_⟩
      have ed : decide (V.str h = V.str "deed") = isDeed k := by
        rw [← eh]
        by_cases z : h = ("deed" : Str)
        · subst z
          rfl
        · rw [decide_eq_false (fun y => z (V.str.inj y)), beq_eq_false_iff_ne.mpr z]
      rw [ed]
      cases ei : isDeed k with
      | true =>
        rw [ei] at tf
        refine iteT ⟨_, rfl, bs, hD, small1000 ?_, same_mut sm nD1, _, upd_same, ?_⟩
        · rw [hb]
          exact Nat.le_trans (List.length_filter_le _ _) (by rw [List.length_take]; omega)
        · rw [tf, List.length_append, List.length_append, hb]
          rfl
      | false =>
        rw [ei] at tf
        refine iteF ⟨sm, bs, hD, ?_⟩
        rw [tf, hb]
        simp
    rintro H4 ⟨s4, bs, hD1, hb⟩
    have etk : xs.take us.length = xs := List.take_of_length_le (by omega)
    rw [etk, filter_len, c3] at hb
    have e1' := s4 _ _ e1
    have e2' := s4 _ _ e2
    refine ⟨_, rfl, l1, _, rfl, .inl (SqL.of e1'), _, rfl, l2, _, rfl, .inl (SqL.of e2'), _, _, rfl, rfl, _, rfl, D1, _, rfl, .inl (SqL.of hD1), ?_⟩
    -- [test for test in tests if test[0] == 'name']
    refine ⟨_, rfl, l2, rfl, ⟨_, SqL.of e2'⟩, fun D2 nD2 => ?_⟩
    refine lc_list (K := K) (a := l2) (xs := ws) (fun i H' => Same H4 H' ∧ ∃ bs : List V, H' D2 = some (.lst bs) ∧ bs.length = ((ys.take i).filter isNm).length) ⟨same_new nD2, [], upd_same, rfl⟩ (fun i H' _ ⟨sm, _⟩ => SqL.of (sm _ _ e2')) ?_ ?_
    · rintro i x H5 hx ⟨sm, bs2, hD, hb2⟩
      obtain ⟨k, hk, ak⟩ := getE a2 hx
      obtain ⟨h, r, ek, eh⟩ := encT_head k
      rw [ek] at ak
      obtain ⟨pa, xs', rfl, hpa, _⟩ := (ak.tm (TM.same (s4.trans sm))).head
      have tf := take_filter (f := isNm) hk
      refine ⟨rfl, _, rfl, pa, _, 0, .str h, rfl, rfl, SqT.of hpa, atI_nat (j := 0) rfl, rfl, _, rfl, ?_⟩
      have ed : decide (V.str h = V.str "name") = isNm k := by
        rw [← eh]
        by_cases z : h = ("name" : Str)
        · subst z
          rfl
        · rw [decide_eq_false (fun y => z (V.str.inj y)), beq_eq_false_iff_ne.mpr z]
      rw [ed]
      cases ei : isNm k with
      | true =>
        rw [ei] at tf
        refine iteT ⟨_, rfl, bs2, hD, small1000 ?_, same_mut sm nD2, _, upd_same, ?_⟩
        · rw [hb2]
          exact Nat.le_trans (List.length_filter_le _ _) (by rw [List.length_take]; omega)
        · rw [tf, List.length_append, List.length_append, hb2]
          rfl
      | false =>
        rw [ei] at tf
        refine iteF ⟨sm, bs2, hD, ?_⟩
        rw [tf, hb2]
        simp
    rintro H5 ⟨s5, bs2, hD2, hb2⟩
    have etk2 : ys.take ws.length = ys := List.take_of_length_le (by omega)
    rw [etk2, filter_len, c4] at hb2
    refine ⟨D2, _, rfl, .inl (SqL.of hD2), sl 3 (by decide), fun t nt => ?_⟩
    have s05 := s03.trans (s4.trans s5)
    refine q _ t (s05.trans (same_new nt)) (s05.free nt) ?_
    have ew : wtD (wt p) = [V.int ((us.length : Nat) + (ws.length : Nat) : Int), V.int (bs.length : Nat), V.int (bs2.length : Nat)] := by
      rw [hb, hb2, ← lus, ← lws, c1, c2]
      rfl
    rw [ew]
    exact upd_same
end
end K46

set_option Elab.async false
set_option linter.all false
set_option maxRecDepth 100000
set_option maxHeartbeats 4000000
/-! changes.py: test_place, put_in_place, changed_here, part_places. -/
namespace K46
open PySem PySem.Spec PyProof.Rows L2
abbrev sTestPlace : Stmt := topS 20
abbrev sPut : Stmt := topS 21
abbrev sHere : Stmt := topS 22
abbrev sPlaces : Stmt := topS 23
/-! ### the mathematics -/
def tplace : Pr → Option Nat
  | .assume _ => some 1
  | .ite _ _ _ => some 1
  | .whl _ _ => some 1
  | .rep _ _ => some 2
  | _ => none
/-- another test -/
def withT : Pr → Te → Pr
  | .assume _, t => .assume t
  | .ite _ p q, t => .ite t p q
  | .whl _ p, t => .whl t p
  | .rep p _, t => .rep p t
  | p, _ => p
/-- another program part: the k-th -/
def withP : Pr → Nat → Pr → Pr
  | .thn _ q, 0, r => .thn r q
  | .thn p _, _ + 1, r => .thn p r
  | .cho _ q, 0, r => .cho r q
  | .cho p _, _ + 1, r => .cho p r
  | .loop _, _, r => .loop r
  | .ite t _ q, 0, r => .ite t r q
  | .ite t p _, _ + 1, r => .ite t p r
  | .whl t _, _, r => .whl t r
  | .rep _ t, _, r => .rep r t
  | p, _, _ => p
/-- the indices of program parts -/
def places : Pr → List Nat
  | .thn _ _ => [1, 2]
  | .cho _ _ => [1, 2]
  | .loop _ => [1]
  | .ite _ _ _ => [2, 3]
  | .whl _ _ => [2]
  | .rep _ _ => [1]
  | _ => []
def items : D → List D
  | .tup ks => ks
  | _ => []
def setD (d : D) (i : Nat) (e : D) : D := .tup ((items d).set i e)
def here (p : Pr) : List Pr := [.skip, .stop] ++ kidsP p ++ (match tplace p with
  | some _ => [withT p .tr, withT p .fa]
  | none => [])
theorem withT_enc {p : Pr} {n : Nat} (h : tplace p = some n) (t : Te) : encP (withT p t) = setD (encP p) n (encT t) := by
  cases p <;> cases h <;> rfl
theorem tplace_lt {p : Pr} {n : Nat} (h : tplace p = some n) : 1 ≤ n ∧ n < (items (encP p)).length := by
  cases p <;> cases h <;> exact ⟨by decide, by show _ < _; simp [encP, items]⟩
theorem places_kid {p : Pr} {i n : Nat} (h : (places p)[i]? = some n) : ∃ k, (kidsP p)[i]? = some k ∧ nth (encP p) n = encP k ∧ 1 ≤ n ∧ n < (items (encP p)).length ∧ ∀ r, encP (withP p i r) = setD (encP p) n (encP r) := by
  cases p with
  | thn p q =>
    match i, h with
    | 0, h => cases h; exact ⟨p, rfl, rfl, by decide, by show 1 < 3; decide, fun _ => rfl⟩
    | 1, h => cases h; exact ⟨q, rfl, rfl, by decide, by show 2 < 3; decide, fun _ => rfl⟩
  | cho p q =>
    match i, h with
    | 0, h => cases h; exact ⟨p, rfl, rfl, by decide, by show 1 < 3; decide, fun _ => rfl⟩
    | 1, h => cases h; exact ⟨q, rfl, rfl, by decide, by show 2 < 3; decide, fun _ => rfl⟩
  | loop p =>
    match i, h with
    | 0, h => cases h; exact ⟨p, rfl, rfl, by decide, by show 1 < 2; decide, fun _ => rfl⟩
  | ite t p q =>
    match i, h with
    | 0, h => cases h; exact ⟨p, rfl, rfl, by decide, by show 2 < 4; decide, fun _ => rfl⟩
    | 1, h => cases h; exact ⟨q, rfl, rfl, by decide, by show 3 < 4; decide, fun _ => rfl⟩
  | whl t p =>
    match i, h with
    | 0, h => cases h; exact ⟨p, rfl, rfl, by decide, by show 2 < 3; decide, fun _ => rfl⟩
  | rep p t =>
    match i, h with
    | 0, h => cases h; exact ⟨p, rfl, rfl, by decide, by show 1 < 3; decide, fun _ => rfl⟩
  | skip => simp [places] at h
  | stop => simp [places] at h
  | deed s => simp [places] at h
  | assume t => simp [places] at h
theorem places_len (p : Pr) : (places p).length = (kidsP p).length := by cases p <;> rfl
theorem set_cut {α : Type} : ∀ (l : List α) (i : Nat) (x : α), i < l.length → l.set i x = l.take i ++ [x] ++ l.drop (i + 1)
  | [], i, x, h => by simp at h
  | a :: l, 0, x, _ => rfl
  | a :: l, i + 1, x, h => by
    have := set_cut l i x (by simpa using h)
    show a :: l.set i x = a :: (l.take i ++ [x] ++ l.drop (i + 1))
    rw [this]
theorem AtAll.cut {H : Hp} {ks : List D} {vs : List V} (a : AtAll H ks vs) {i : Nat} {e : D} {u : V} (ae : At H e u) (h : i < ks.length) : AtAll H (ks.set i e) (vs.take i ++ [u] ++ vs.drop (i + 1)) := by
  rw [set_cut ks i e h]
  exact ((a.take i).append (.cons ae .nil)).append (a.drop (i + 1))
theorem AtAll.inv_tup {H : Hp} {d : D} {v : V} (a : At H d v) (h : 0 < (items d).length) : ∃ p xs, v = .ref p ∧ H p = some (.tup xs) ∧ AtAll H (items d) xs := by
  cases a with
  | tup e q => exact ⟨_, _, rfl, e, q⟩
  | none => simp [items] at h
  | num i => simp [items] at h
  | text x o => simp [items] at h
section
variable {P : Program} {w : World} {K : PySem.W.Frag} {mg : Str → Option Value} {base : Heap}
/-! ### test_place -/
def nV : Option Nat → V
  | some n => .int (n : Int)
  | none => .non
def spTestPlace : Sp := fun vs H Q _ => ∃ (p : Pr) (v : V), vs = [v] ∧ At H (encP p) v ∧ ∀ H', Same H H' → Q (nV (tplace p)) H'
theorem scTPl : FnScope ["program"] ["program"] (defScope sTestPlace) := ⟨rfl, rfl, rfl, by decide +kernel, rfl, by decide +kernel, by decide +kernel⟩
theorem tplace_heads (p : Pr) : ∃ h r, encP p = .tup (.text h :: r) ∧ (["assume", "if", "while"] : List Str).contains h = (tplace p == some 1) ∧ (h == ("repeat" : Str)) = (tplace p == some 2) := by
  cases p <;> exact ⟨_, _, rfl, rfl, rfl⟩
theorem tplace_12 (p : Pr) : tplace p = none ∨ tplace p = some 1 ∨ tplace p = some 2 := by
  cases p <;> simp [tplace]
theorem decide_str (h x : Str) : decide (V.str h = V.str x) = (h == x) := by
  by_cases z : h = x
  · subst z
    rw [decide_eq_true rfl]
    exact (beq_self_eq_true _).symm
  · rw [decide_eq_false (fun y => z (V.str.inj y)), beq_eq_false_iff_ne.mpr z]
theorem ok_testPlace {f : Addr} {fd : FuncData} (F : Fun K "test_place" "test_place" sTestPlace f fd) : FnOk P w K mg base CX0 1 f fd ["program"] spTestPlace := by
  refine F.ok scTPl (fun vs H Q E h => ?_) (fun cdv A outer s H vs Q E hr h => ?_)
  · obtain ⟨p, v, rfl, _⟩ := h
    rfl
  · obtain ⟨p, v, rfl, hd, q⟩ := h
    refine ⟨_, pss_cons (ps_if (pt_cmpR op_in_seq (pe_ix ix_tup (pv 0) pe_int (fun _ _ => rfl)) (pe_tup (pa_cons pe_str (pa_cons pe_str (pa_cons pe_str pa_nil)))) (by rfl)) (pss_one (ps_ret pe_int)) pss_nil)
      (pss_one (ps_ret (pe_ifExp (pt_cmpR op_eq (pe_ix ix_tup (pv 0) pe_int (fun _ _ => rfl)) pe_str (nomark _)) pe_int pe_non))), ?_⟩
    obtain ⟨h, r, eh, h1, h2⟩ := tplace_heads p
    rw [eh] at hd
    obtain ⟨a, xs, rfl, ha, _⟩ := hd.head
    refine ⟨_, rfl, a, _, 0, .str h, rfl, rfl, SqT.of ha, atI_nat (j := 0) rfl, by show 3 ≤ sizeLine; decide, fun t nt => ?_⟩
    refine ⟨t, _, rfl, .inr (SqT.of upd_same), rfl, flat_strs ["assume", "if", "while"], _, rfl, ?_⟩
    have e1 : inV (.str h) ((["assume", "if", "while"] : List Str).map V.str) = (tplace p == some 1) := (inV_strs h _).trans h1
    show if inV (.str h) ((["assume", "if", "while"] : List Str).map V.str) = true then _ else _
    rw [e1]
    have sm : Same H (upd H t (.tup ((["assume", "if", "while"] : List Str).map V.str))) := same_new nt
    have z := q _ sm
    rcases tplace_12 p with e | e | e
    · rw [e] at z h2
      rw [e]
      refine ⟨_, rfl, a, _, 0, .str h, rfl, rfl, SqT.of (sm _ _ ha), atI_nat (j := 0) rfl, rfl, _, rfl, ?_⟩
      show if decide (V.str h = V.str "repeat") = true then _ else _
      rw [decide_str, h2]
      exact z
    · rw [e] at z
      rw [e]
      exact z
    · rw [e] at z h2
      rw [e]
      refine ⟨_, rfl, a, _, 0, .str h, rfl, rfl, SqT.of (sm _ _ ha), atI_nat (j := 0) rfl, rfl, _, rfl, ?_⟩
      show if decide (V.str h = V.str "repeat") = true then _ else _
      rw [decide_str, h2]
      exact z
/-! ### put_in_place -/
def spPut : Sp := fun vs H Q _ => ∃ (d e : D) (v u : V) (i : Nat), vs = [v, .int (i : Int), u] ∧ At H d v ∧ At H e u ∧ 1 ≤ i ∧ i < (items d).length ∧ (items d).length ≤ 100 ∧ ∀ H' z, Same H H' → At H' (setD d i e) z → Q z H'
theorem scPut : FnScope ["program", "index", "part"] ["program", "index", "part"] (defScope sPut) := ⟨rfl, rfl, rfl, by decide +kernel, rfl, by decide +kernel, by decide +kernel⟩
theorem ok_put {f : Addr} {fd : FuncData} (F : Fun K "put_in_place" "put_in_place" sPut f fd) : FnOk P w K mg base CX0 1 f fd ["program", "index", "part"] spPut := by
  refine F.ok scPut (fun vs H Q E h => ?_) (fun cdv A outer s H vs Q E hr h => ?_)
  · obtain ⟨d, e, v, u, i, rfl, _⟩ := h
    rfl
  · obtain ⟨d, e, v, u, i, rfl, hd, he, h1, hi, hl, q⟩ := h
    refine ⟨_, pss_one (ps_ret (pe_op op_catT (pe_op op_catT (pe_slice sl_tup (pv 0) po_none (po_some (pv 1))) (pe_tup (pa_cons (pv 2) pa_nil))) (pe_slice sl_tup (pv 0) (po_some (pe_op op_add (pv 1) pe_int)) po_none))), ?_⟩
    obtain ⟨p, xs, rfl, hp, ax⟩ := AtAll.inv_tup hd (by omega)
    have lx := ax.length
    have sl : ∀ n : Nat, n ≤ 1000 → n ≤ sizeLine := fun n h => Nat.le_of_lt (small1000 h)
    have c1 : cutV xs none (some (i : Int)) = xs.take i := by
      unfold cutV
      rw [HT.sIx_none, HT.sIx_nat, List.drop_zero, Nat.sub_zero, Nat.min_eq_left (by omega)]
    have c2 : cutV xs (some ((i : Int) + 1)) none = xs.drop (i + 1) := by
      unfold cutV
      rw [show ((i : Int) + 1) = ((i + 1 : Nat) : Int) by omega, HT.sIx_none, HT.sIx_nat, Nat.min_eq_left (by omega)]
      exact List.take_of_length_le (by rw [List.length_drop]; omega)
    refine ⟨_, rfl, _, rfl, _, rfl, p, xs, rfl, SqT.of hp, ?_, fun q1 n1 => ?_⟩
    · rw [HT.sIx_none, HT.sIx_nat, Nat.min_eq_left (by omega)]
      omega
    rw [c1]
    have s1 : Same H (upd H q1 (.tup (xs.take i))) := same_new n1
    refine ⟨_, rfl, sl 1 (by decide), fun q2 n2 => ?_⟩
    have s2 : Same (upd H q1 (.tup (xs.take i))) (upd (upd H q1 (.tup (xs.take i))) q2 (.tup [u])) := same_new n2
    have lt1 : (xs.take i).length = i := by rw [List.length_take]; omega
    refine ⟨q1, q2, _, [u], rfl, rfl, SqT.of (s2 _ _ upd_same), SqT.of upd_same, fun z => ?_, sl _ (by simp only [List.length_cons, List.length_nil]; omega), fun z => (nomatch z), fun _ q3 n3 => ?_⟩
    · rw [z] at lt1
      simp at lt1
      omega
    have s3 := same_new (H := upd (upd H q1 (.tup (xs.take i))) q2 (.tup [u])) (o := .tup (xs.take i ++ [u])) n3
    have s13 := s1.trans (s2.trans s3)
    refine ⟨_, rfl, _, rfl, _, _, rfl, rfl, _, rfl, p, xs, rfl, SqT.of (s13 _ _ hp), ?_, fun q4 n4 => ?_⟩
    · rw [show ((i : Int) + 1) = ((i + 1 : Nat) : Int) by omega, HT.sIx_nat]
      omega
    rw [c2]
    have s4 := same_new (H := upd (upd (upd H q1 (.tup (xs.take i))) q2 (.tup [u])) q3 (.tup (xs.take i ++ [u]))) (o := .tup (xs.drop (i + 1))) n4
    have s14 := s13.trans s4
    refine ⟨q3, q4, _, _, rfl, rfl, SqT.of (s4 _ _ upd_same), SqT.of upd_same, by simp, sl _ (by simp only [List.length_append, List.length_cons, List.length_nil, List.length_drop]; omega), fun z => ?_, fun _ q5 n5 => ?_⟩
    · refine q _ _ s14 (.tup (s4 _ _ upd_same) ?_)
      have zz := (ax.tm (TM.same s14)).cut (he.tm (TM.same s14)) hi
      have e0 : xs.take i ++ [u] ++ xs.drop (i + 1) = xs.take i ++ [u] := by rw [z, List.append_nil]
      rw [e0] at zz
      exact zz
    · have s5 := same_new (H := upd (upd (upd (upd H q1 (.tup (xs.take i))) q2 (.tup [u])) q3 (.tup (xs.take i ++ [u]))) q4 (.tup (xs.drop (i + 1)))) (o := .tup (xs.take i ++ [u] ++ xs.drop (i + 1))) n5
      have s15 := s14.trans s5
      exact q _ _ s15 (.tup upd_same ((ax.tm (TM.same s15)).cut (he.tm (TM.same s15)) hi))
end
end K46

set_option Elab.async false
set_option linter.all false
set_option maxRecDepth 100000
set_option maxHeartbeats 4000000
/-! changes.py: changed_here, part_places. -/
namespace K46
open PySem PySem.Spec PyProof.Rows L2
section
variable {P : Program} {w : World} {K : PySem.W.Frag} {mg : Str → Option Value} {base : Heap}
theorem encP_items4 (p : Pr) : (items (encP p)).length ≤ 4 := by cases p <;> (show _ ≤ 4; simp [encP, items])
/-- a new list that codes ps -/
def NewL (H : Hp) (Q : VK) (ps : List Pr) : Prop := ∀ H' l us, Same H H' → H l = none → H' l = some (.lst us) → AtAll H' (ps.map encP) us → Q (.ref l) H'
def spHere : Sp := fun vs H Q _ => ∃ (p : Pr) (v : V), vs = [v] ∧ At H (encP p) v ∧ okP p = true ∧ NewL H Q (here p)
theorem scHe : FnScope ["program", "found", "place", "test"] ["program"] (defScope sHere) := ⟨rfl, rfl, rfl, by decide +kernel, rfl, by decide +kernel, by decide +kernel⟩
theorem ok_here {f fP fT fU : Addr} {fd fdP fdT fdU : FuncData} (F : Fun K "changed_here" "changed_here" sHere f fd) (GP : FnOk P w K mg base CX0 2 fP fdP ["value"] spPParts) (kP : PySem.W.keepIn K (.ref fP) = true) (gP : mg "program_parts" = some (.ref fP)) (bP : Binds K fdP ["value"] [])
    (GT : FnOk P w K mg base CX0 1 fT fdT ["program"] spTestPlace) (kT : PySem.W.keepIn K (.ref fT) = true) (gT : mg "test_place" = some (.ref fT)) (bT : Binds K fdT ["program"] [])
    (GU : FnOk P w K mg base CX0 1 fU fdU ["program", "index", "part"] spPut) (kU : PySem.W.keepIn K (.ref fU) = true) (gU : mg "put_in_place" = some (.ref fU)) (bU : Binds K fdU ["program", "index", "part"] []) : FnOk P w K mg base CX0 3 f fd ["program"] spHere := by
  refine F.ok scHe (fun vs H Q E h => ?_) (fun cdv A outer s H vs Q E hr h => ?_)
  · obtain ⟨p, v, rfl, _⟩ := h
    rfl
  · obtain ⟨p, v, rfl, hd, hok, q⟩ := h
    have hr1 := hr.mono (show 1 ≤ 2 by decide)
    refine ⟨_, pss_cons (ps_set (i := 1) scHe.nd rfl (.inl rfl) (pe_op op_cat (pe_lst (pa_cons (pe_tup (pa_cons pe_str pa_nil)) (pa_cons (pe_tup (pa_cons pe_str pa_nil)) pa_nil))) (pe_ix ix_tup (pe_call GP hr (by rfl) gP kP bP .nil pass0 (pa_cons (pv 0) pa_nil)) pe_int (fun _ _ => rfl))))
      (pss_cons (ps_set (i := 2) scHe.nd rfl (.inr rfl) (pe_call GT hr1 (by rfl) gT kT bT .nil pass0 (pa_cons (pv 0) pa_nil)))
      (pss_cons (ps_if (pt_cmp (pc_notN (pv 2)))
        (pss_one (ps_set (i := 1) scHe.nd rfl (.inl rfl) (pe_op op_cat (pv 1)
          (pe_lc (own := [("test", 3)]) (g := gName 3) (tt := tYes) (te := tCall spPut [] E0 (tCons (tVar 0) (tCons (tVar 2) (tCons (tVar 3) tNil)))) rfl scHe.nd (pi_tup (pe_tup (pa_cons (pe_tup (pa_cons pe_str pa_nil)) (pa_cons (pe_tup (pa_cons pe_str pa_nil)) pa_nil)))) (blkOk_by (N := ["program", "found", "place", "test"]) (sc := defScope sHere) (by decide +kernel)) (fun _ _ _ _ _ => pg_name (i := 3) scHe.nd rfl (Or.inl rfl))
            (fun _ _ _ _ _ => pts_nil) (fun _ _ _ _ _ => pe_call GU hr1 (by rfl) gU kU bU .nil pass0 (pa_cons (pv 0) (pa_cons (pv 2) (pa_cons (pv 3) pa_nil)))))))) pss_nil)
      (pss_one (ps_ret (pv 1))))), ?_⟩
    have sl : ∀ n : Nat, n ≤ 1000 → n ≤ sizeLine := fun n h => Nat.le_of_lt (small1000 h)
    -- [('skip',), ('stop',)]
    refine ⟨sl 1 (by decide), fun p1 n1 => ⟨sl 1 (by decide), fun p2 n2 => ⟨sl 2 (by decide), fun p3 n3 => ?_⟩⟩⟩
    have s1 : Same H (upd H p1 (.tup [.str "skip"])) := same_new n1
    have s2 := same_new (H := upd H p1 (.tup [.str "skip"])) (o := .tup [.str "stop"]) n2
    have s3 := same_new (H := upd (upd H p1 (.tup [.str "skip"])) p2 (.tup [.str "stop"])) (o := .lst [.ref p1, .ref p2]) n3
    have s13 := s1.trans (s2.trans s3)
    have a1 : At (upd (upd (upd H p1 (.tup [.str "skip"])) p2 (.tup [.str "stop"])) p3 (.lst [.ref p1, .ref p2])) (encP .skip) (.ref p1) := .tup (s3 _ _ (s2 _ _ upd_same)) (.cons (.text "skip" (by decide +kernel)) .nil)
    have a2 : At (upd (upd (upd H p1 (.tup [.str "skip"])) p2 (.tup [.str "stop"])) p3 (.lst [.ref p1, .ref p2])) (encP .stop) (.ref p2) := .tup (s3 _ _ upd_same) (.cons (.text "stop" (by decide +kernel)) .nil)
    have e3 : (upd (upd (upd H p1 (.tup [.str "skip"])) p2 (.tup [.str "stop"])) p3 (.lst [.ref p1, .ref p2])) p3 = some (.lst [.ref p1, .ref p2]) := upd_same
    generalize upd (upd (upd H p1 (.tup [.str "skip"])) p2 (.tup [.str "stop"])) p3 (.lst [.ref p1, .ref p2]) = H3 at s13 a1 a2 e3
    refine ⟨v, rfl, encP p, v, rfl, hd.tm (TM.same s13), fun en => ?_, fun ps ts en H4 t q1 q2 us ws s4 nt nq1 nq2 n12 ht hq1 hq2 au aw => ?_⟩
    · rw [pparts_enc p hok] at en
      cases en
    rw [pparts_enc p hok] at en
    cases en
    have lus := au.length
    rw [List.length_map] at lus
    have lk : (kidsP p).length ≤ 2 := by cases p <;> simp [kidsP]
    refine ⟨t, _, 0, .ref q1, rfl, rfl, SqT.of ht, atI_nat (j := 0) rfl, p3, q1, _, us, rfl, rfl, s4 _ _ e3, hq1, sl _ (by simp only [List.length_cons, List.length_nil]; omega), fun p5 n5 => ?_⟩
    have s5 := same_new (H := H4) (o := .lst ([.ref p1, .ref p2] ++ us)) n5
    have s45 := s4.trans s5
    have s15 := s13.trans s45
    have f5 : H p5 = none := s13.free (s4.free n5)
    have afound : AtAll (upd H4 p5 (.lst ([.ref p1, .ref p2] ++ us))) (([Pr.skip, Pr.stop] ++ kidsP p).map encP) ([.ref p1, .ref p2] ++ us) := by
      rw [List.map_append]
      exact (AtAll.cons (a1.tm (TM.same s45)) (.cons (a2.tm (TM.same s45)) .nil)).append (au.tm (TM.same s5))
    have e5 : (upd H4 p5 (.lst ([.ref p1, .ref p2] ++ us))) p5 = some (.lst ([.ref p1, .ref p2] ++ us)) := upd_same
    generalize upd H4 p5 (.lst ([.ref p1, .ref p2] ++ us)) = H5 at s15 afound e5
    -- place = test_place(program)
    refine ⟨v, rfl, p, v, rfl, hd.tm (TM.same s15), fun H6 s6 => ?_⟩
    have s16 := s15.trans s6
    cases ep : tplace p with
    | none =>
      refine ⟨_, rfl, _, rfl, ?_⟩
      refine ⟨_, rfl, q H6 p5 _ s16 f5 (s6 _ _ e5) ?_⟩
      have eh : here p = [Pr.skip, Pr.stop] ++ kidsP p := by
        unfold here
        rw [ep]
        exact List.append_nil _
      rw [eh]
      exact afound.tm (TM.same s6)
    | some n =>
      obtain ⟨hn1, hn2⟩ := tplace_lt ep
      refine ⟨_, rfl, _, rfl, ?_⟩
      refine ⟨_, rfl, sl 1 (by decide), fun r1 m1 => ⟨sl 1 (by decide), fun r2 m2 => ⟨sl 2 (by decide), fun r3 m3 => ?_⟩⟩⟩
      have v1 := same_new (H := H6) (o := .tup [.str "true"]) m1
      have v2 := same_new (H := upd H6 r1 (.tup [.str "true"])) (o := .tup [.str "false"]) m2
      have v3 := same_new (H := upd (upd H6 r1 (.tup [.str "true"])) r2 (.tup [.str "false"])) (o := .tup [.ref r1, .ref r2]) m3
      have v13 := v1.trans (v2.trans v3)
      have b1 : At (upd (upd (upd H6 r1 (.tup [.str "true"])) r2 (.tup [.str "false"])) r3 (.tup [.ref r1, .ref r2])) (encT .tr) (.ref r1) := .tup (v3 _ _ (v2 _ _ upd_same)) (.cons (.text "true" (by decide +kernel)) .nil)
      have b2 : At (upd (upd (upd H6 r1 (.tup [.str "true"])) r2 (.tup [.str "false"])) r3 (.tup [.ref r1, .ref r2])) (encT .fa) (.ref r2) := .tup (v3 _ _ upd_same) (.cons (.text "false" (by decide +kernel)) .nil)
      have b3 : (upd (upd (upd H6 r1 (.tup [.str "true"])) r2 (.tup [.str "false"])) r3 (.tup [.ref r1, .ref r2])) r3 = some (.tup [.ref r1, .ref r2]) := upd_same
      generalize upd (upd (upd H6 r1 (.tup [.str "true"])) r2 (.tup [.str "false"])) r3 (.tup [.ref r1, .ref r2]) = H7 at v13 b1 b2 b3
      refine ⟨r3, rfl, ⟨_, SqT.of b3⟩, fun D1 nD1 => ?_⟩
      refine lc_it (walk_tup (K := K) (a := r3) (xs := [.ref r1, .ref r2])) (fun i H' => Same H7 H' ∧ ∃ bs : List V, H' D1 = some (.lst bs) ∧ AtAll H' (([withT p .tr, withT p .fa].take i).map encP) bs) ⟨same_new nD1, [], upd_same, .nil⟩ (fun i H' _ ⟨sm, _⟩ => SqT.of (sm _ _ b3)) ?_ ?_
      · rintro i x H8 H9 hi ⟨sm, bs, hD, hb⟩ ⟨rfl, hx⟩
        obtain ⟨tt, htt, att⟩ : ∃ tt : Te, ([Te.tr, Te.fa])[i]? = some tt ∧ At H7 (encT tt) x := by
          match i, hx with
          | 0, hx => cases hx; exact ⟨_, rfl, b1⟩
          | 1, hx => cases hx; exact ⟨_, rfl, b2⟩
        have hw : ([withT p .tr, withT p .fa])[i]? = some (withT p tt) := by
          match i, htt with
          | 0, htt => cases htt; rfl
          | 1, htt => cases htt; rfl
        refine ⟨rfl, ?_⟩
        refine ⟨_, rfl, _, rfl, _, rfl, encP p, encT tt, v, x, n, rfl, hd.tm (TM.same (s16.trans (v13.trans sm))), att.tm (TM.same sm), hn1, hn2, Nat.le_trans (encP_items4 p) (by decide), fun H10 z s10 az => ?_⟩
        have lbs := hb.length
        refine ⟨bs, s10 _ _ hD, small1000 ?_, same_mut (sm.trans s10) nD1, _, upd_same, ?_⟩
        · rw [List.length_map, List.length_take] at lbs
          simp only [List.length_cons, List.length_nil] at lbs
          omega
        · rw [take_more hw, List.map_append, ← withT_enc ep tt] at *
          exact ((hb.tm (TM.same s10)).append (.cons az .nil)).tm (TM.lst (s10 _ _ hD))
      · rintro H8 ⟨sm, bs, hD, hb⟩
        have e58 := sm _ _ (v13 _ _ (s6 _ _ e5))
        have lbs := hb.length
        refine ⟨p5, D1, _, bs, rfl, rfl, e58, hD, sl _ ?_, fun p9 n9 => ?_⟩
        · rw [List.length_map, List.length_take] at lbs
          simp only [List.length_cons, List.length_nil, List.length_append] at lbs ⊢
          omega
        have s9 := same_new (H := H8) (o := .lst ([.ref p1, .ref p2] ++ us ++ bs)) n9
        have s69 := s6.trans (v13.trans (sm.trans s9))
        refine ⟨_, rfl, q _ p9 _ (s15.trans s69) (s15.free (s6.free (v13.free (sm.free n9)))) upd_same ?_⟩
        have eh : here p = [Pr.skip, Pr.stop] ++ kidsP p ++ [withT p .tr, withT p .fa] := by
          unfold here
          rw [ep]
        rw [eh, List.map_append]
        exact (afound.tm (TM.same s69)).append (hb.tm (TM.same s9))
/-! ### part_places -/
def spPlaces : Sp := fun vs H Q _ => ∃ (p : Pr) (v : V), vs = [v] ∧ At H (encP p) v ∧ ∀ H' a, Same H H' → H' a = some (.tup ((places p).map fun n => V.int (n : Nat))) → Q (.ref a) H'
theorem scPls : FnScope ["program", "some"] ["program"] (defScope sPlaces) := ⟨rfl, rfl, rfl, by decide +kernel, rfl, by decide +kernel, by decide +kernel⟩
end
end K46

set_option Elab.async false
set_option linter.all false
set_option maxRecDepth 100000
set_option maxHeartbeats 4000000
/-! changes.py: part_places. -/
namespace K46
open PySem PySem.Spec PyProof.Rows L2
section
variable {P : Program} {w : World} {K : PySem.W.Frag} {mg : Str → Option Value} {base : Heap}
theorem places_head (p : Pr) : ∃ h r, encP p = .tup (.text h :: r) ∧ ∀ a1 a2 a3 a4 a5 a6 : V, valV (mergeK [] [(Sum.inr "then", a1), (Sum.inr "choose", a2), (Sum.inr "loop", a3), (Sum.inr "if", a4), (Sum.inr "while", a5), (Sum.inr "repeat", a6)]) (Sum.inr h : Key) =
    (match p with | .thn _ _ => some a1 | .cho _ _ => some a2 | .loop _ => some a3 | .ite _ _ _ => some a4 | .whl _ _ => some a5 | .rep _ _ => some a6 | _ => none) := by
  cases p <;> exact ⟨_, _, rfl, fun a1 a2 a3 a4 a5 a6 => by kernel_rfl⟩
theorem ok_places {f : Addr} {fd : FuncData} (F : Fun K "part_places" "part_places" sPlaces f fd) : FnOk P w K mg base CX0 1 f fd ["program"] spPlaces := by
  refine F.ok scPls (fun vs H Q E h => ?_) (fun cdv A outer s H vs Q E hr h => ?_)
  · obtain ⟨p, v, rfl, _⟩ := h
    rfl
  · obtain ⟨p, v, rfl, hd, q⟩ := h
    refine ⟨_, pss_cons (ps_set (i := 1) scPls.nd rfl (.inl rfl) (pe_disp (pps_cons pe_str (pe_tup (pa_cons pe_int (pa_cons pe_int pa_nil))) (pps_cons pe_str (pe_tup (pa_cons pe_int (pa_cons pe_int pa_nil))) (pps_cons pe_str (pe_tup (pa_cons pe_int pa_nil)) (pps_cons pe_str (pe_tup (pa_cons pe_int (pa_cons pe_int pa_nil)))
          (pps_cons pe_str (pe_tup (pa_cons pe_int pa_nil)) (pps_cons pe_str (pe_tup (pa_cons pe_int pa_nil)) pps_nil)))))) (by rfl) (by rfl) (fun z => by cases z) (by decide)))
      (pss_one (ps_ret (pe_dget2 (hu_of hr) (pv 1) (pe_ix ix_tup (pv 0) pe_int (fun _ _ => rfl)) (pe_tup pa_nil) ⟨rfl, rfl, rfl, rfl⟩))), ?_⟩
    have sl : ∀ n : Nat, n ≤ 1000 → n ≤ sizeLine := fun n h => Nat.le_of_lt (small1000 h)
    obtain ⟨h, r, eh, hv⟩ := places_head p
    intro d nd
    refine ⟨sl 2 (by decide), fun q1 n1 => ⟨sl 2 (by decide), fun q2 n2 => ⟨sl 1 (by decide), fun q3 n3 => ⟨sl 2 (by decide), fun q4 n4 => ⟨sl 1 (by decide), fun q5 n5 => ⟨sl 1 (by decide), fun q6 n6 => ?_⟩⟩⟩⟩⟩⟩
    have s0 : Same H (upd H d (.dK [])) := same_new nd
    have s1 := same_new (H := upd H d (.dK [])) (o := .tup [.int 1, .int 2]) n1
    have s2 := same_new (H := upd (upd H d (.dK [])) q1 (.tup [.int 1, .int 2])) (o := .tup [.int 1, .int 2]) n2
    have s3 := same_new (H := upd (upd (upd H d (.dK [])) q1 (.tup [.int 1, .int 2])) q2 (.tup [.int 1, .int 2])) (o := .tup [.int 1]) n3
    have s4 := same_new (H := upd (upd (upd (upd H d (.dK [])) q1 (.tup [.int 1, .int 2])) q2 (.tup [.int 1, .int 2])) q3 (.tup [.int 1])) (o := .tup [.int 2, .int 3]) n4
    have s5 := same_new (H := upd (upd (upd (upd (upd H d (.dK [])) q1 (.tup [.int 1, .int 2])) q2 (.tup [.int 1, .int 2])) q3 (.tup [.int 1])) q4 (.tup [.int 2, .int 3])) (o := .tup [.int 2]) n5
    have s6 := same_new (H := upd (upd (upd (upd (upd (upd H d (.dK [])) q1 (.tup [.int 1, .int 2])) q2 (.tup [.int 1, .int 2])) q3 (.tup [.int 1])) q4 (.tup [.int 2, .int 3])) q5 (.tup [.int 2])) (o := .tup [.int 1]) n6
    have g6 : (upd (upd (upd (upd (upd (upd (upd H d (.dK [])) q1 (.tup [.int 1, .int 2])) q2 (.tup [.int 1, .int 2])) q3 (.tup [.int 1])) q4 (.tup [.int 2, .int 3])) q5 (.tup [.int 2])) q6 (.tup [.int 1])) q6 = some (.tup [.int 1]) := upd_same
    have g5 : (upd (upd (upd (upd (upd (upd (upd H d (.dK [])) q1 (.tup [.int 1, .int 2])) q2 (.tup [.int 1, .int 2])) q3 (.tup [.int 1])) q4 (.tup [.int 2, .int 3])) q5 (.tup [.int 2])) q6 (.tup [.int 1])) q5 = some (.tup [.int 2]) := s6 _ _ upd_same
    have g4 : (upd (upd (upd (upd (upd (upd (upd H d (.dK [])) q1 (.tup [.int 1, .int 2])) q2 (.tup [.int 1, .int 2])) q3 (.tup [.int 1])) q4 (.tup [.int 2, .int 3])) q5 (.tup [.int 2])) q6 (.tup [.int 1])) q4 = some (.tup [.int 2, .int 3]) := s6 _ _ (s5 _ _ upd_same)
    have g3 : (upd (upd (upd (upd (upd (upd (upd H d (.dK [])) q1 (.tup [.int 1, .int 2])) q2 (.tup [.int 1, .int 2])) q3 (.tup [.int 1])) q4 (.tup [.int 2, .int 3])) q5 (.tup [.int 2])) q6 (.tup [.int 1])) q3 = some (.tup [.int 1]) := s6 _ _ (s5 _ _ (s4 _ _ upd_same))
    have g2 : (upd (upd (upd (upd (upd (upd (upd H d (.dK [])) q1 (.tup [.int 1, .int 2])) q2 (.tup [.int 1, .int 2])) q3 (.tup [.int 1])) q4 (.tup [.int 2, .int 3])) q5 (.tup [.int 2])) q6 (.tup [.int 1])) q2 = some (.tup [.int 1, .int 2]) := s6 _ _ (s5 _ _ (s4 _ _ (s3 _ _ upd_same)))
    have g1 : (upd (upd (upd (upd (upd (upd (upd H d (.dK [])) q1 (.tup [.int 1, .int 2])) q2 (.tup [.int 1, .int 2])) q3 (.tup [.int 1])) q4 (.tup [.int 2, .int 3])) q5 (.tup [.int 2])) q6 (.tup [.int 1])) q1 = some (.tup [.int 1, .int 2]) := s6 _ _ (s5 _ _ (s4 _ _ (s3 _ _ (s2 _ _ upd_same))))
    have gd : (upd (upd (upd (upd (upd (upd (upd H d (.dK [])) q1 (.tup [.int 1, .int 2])) q2 (.tup [.int 1, .int 2])) q3 (.tup [.int 1])) q4 (.tup [.int 2, .int 3])) q5 (.tup [.int 2])) q6 (.tup [.int 1])) d = some (.dK []) := s6 _ _ (s5 _ _ (s4 _ _ (s3 _ _ (s2 _ _ (s1 _ _ upd_same)))))
    have sm := s0.trans (s1.trans (s2.trans (s3.trans (s4.trans (s5.trans s6)))))
    generalize upd (upd (upd (upd (upd (upd (upd H d (.dK [])) q1 (.tup [.int 1, .int 2])) q2 (.tup [.int 1, .int 2])) q3 (.tup [.int 1])) q4 (.tup [.int 2, .int 3])) q5 (.tup [.int 2])) q6 (.tup [.int 1]) = H1 at g1 g2 g3 g4 g5 g6 gd sm
    refine ⟨gd, [(Sum.inr "then", .ref q1), (Sum.inr "choose", .ref q2), (Sum.inr "loop", .ref q3), (Sum.inr "if", .ref q4), (Sum.inr "while", .ref q5), (Sum.inr "repeat", .ref q6)], rfl, (by show 6 ≤ 15; decide), ?_⟩
    rw [eh] at hd
    have nd' : ∀ a xs, H1 a = some (.tup xs) → a ≠ d := fun a xs e z => by
      rw [z, gd] at e
      cases e
    obtain ⟨a, xs, rfl, ha, _⟩ := hd.head
    have ha1 := sm _ _ ha
    have sm2 : Same H (upd H1 d (.dK (mergeK [] [(Sum.inr "then", .ref q1), (Sum.inr "choose", .ref q2), (Sum.inr "loop", .ref q3), (Sum.inr "if", .ref q4), (Sum.inr "while", .ref q5), (Sum.inr "repeat", .ref q6)]))) := same_mut sm nd
    refine ⟨_, rfl, d, rfl, .inl ⟨_, .inl upd_same⟩, _, rfl, a, _, 0, .str h, rfl, rfl, SqT.of ((upd_ne (nd' _ _ ha1)).trans ha1), atI_nat (j := 0) rfl, sl 0 (by decide), fun e0 ne0 => ?_⟩
    have s9 := same_new (H := upd H1 d (.dK (mergeK [] [(Sum.inr "then", .ref q1), (Sum.inr "choose", .ref q2), (Sum.inr "loop", .ref q3), (Sum.inr "if", .ref q4), (Sum.inr "while", .ref q5), (Sum.inr "repeat", .ref q6)]))) (o := .tup []) ne0
    refine ⟨_, DGet.k (k := Sum.inr h) (s9 _ _ upd_same), ?_⟩
    rw [hv]
    have sm3 := sm2.trans s9
    cases p with
    | thn _ _ => exact q _ q1 sm3 (s9 _ _ ((upd_ne (nd' _ _ g1)).trans g1))
    | cho _ _ => exact q _ q2 sm3 (s9 _ _ ((upd_ne (nd' _ _ g2)).trans g2))
    | loop _ => exact q _ q3 sm3 (s9 _ _ ((upd_ne (nd' _ _ g3)).trans g3))
    | ite _ _ _ => exact q _ q4 sm3 (s9 _ _ ((upd_ne (nd' _ _ g4)).trans g4))
    | whl _ _ => exact q _ q5 sm3 (s9 _ _ ((upd_ne (nd' _ _ g5)).trans g5))
    | rep _ _ => exact q _ q6 sm3 (s9 _ _ ((upd_ne (nd' _ _ g6)).trans g6))
    | skip => exact q _ e0 sm3 upd_same
    | stop => exact q _ e0 sm3 upd_same
    | deed _ => exact q _ e0 sm3 upd_same
    | assume _ => exact q _ e0 sm3 upd_same
end
end K46

set_option Elab.async false
set_option linter.all false
set_option maxRecDepth 100000
set_option maxHeartbeats 4000000
/-! changes.py: all_changes. -/
namespace K46
open PySem PySem.Spec PyProof.Rows L2
abbrev sAllChanges : Stmt := topS 24
def allCh : Pr → List Pr
  | .skip => here .skip
  | .stop => here .stop
  | .deed s => here (.deed s)
  | .assume t => here (.assume t)
  | .thn p q => here (.thn p q) ++ ((allCh p).map (withP (.thn p q) 0) ++ (allCh q).map (withP (.thn p q) 1))
  | .cho p q => here (.cho p q) ++ ((allCh p).map (withP (.cho p q) 0) ++ (allCh q).map (withP (.cho p q) 1))
  | .loop p => here (.loop p) ++ (allCh p).map (withP (.loop p) 0)
  | .ite t p q => here (.ite t p q) ++ ((allCh p).map (withP (.ite t p q) 0) ++ (allCh q).map (withP (.ite t p q) 1))
  | .whl t p => here (.whl t p) ++ (allCh p).map (withP (.whl t p) 0)
  | .rep p t => here (.rep p t) ++ (allCh p).map (withP (.rep p t) 0)
def conts (p : Pr) : List (List Pr) := match p with
  | .thn a b => [(allCh a).map (withP p 0), (allCh b).map (withP p 1)]
  | .cho a b => [(allCh a).map (withP p 0), (allCh b).map (withP p 1)]
  | .loop a => [(allCh a).map (withP p 0)]
  | .ite _ a b => [(allCh a).map (withP p 0), (allCh b).map (withP p 1)]
  | .whl _ a => [(allCh a).map (withP p 0)]
  | .rep a _ => [(allCh a).map (withP p 0)]
  | _ => []
theorem allCh_eq (p : Pr) : allCh p = here p ++ (conts p).flatten := by cases p <;> simp [allCh, conts]
theorem conts_at {p k : Pr} {i : Nat} (h : (kidsP p)[i]? = some k) : (conts p)[i]? = some ((allCh k).map (withP p i)) := by
  cases p with
  | thn a b => match i, h with | 0, h => cases h; rfl | 1, h => cases h; rfl
  | cho a b => match i, h with | 0, h => cases h; rfl | 1, h => cases h; rfl
  | loop a => match i, h with | 0, h => cases h; rfl
  | ite t a b => match i, h with | 0, h => cases h; rfl | 1, h => cases h; rfl
  | whl t a => match i, h with | 0, h => cases h; rfl
  | rep a t => match i, h with | 0, h => cases h; rfl
  | skip => simp [kidsP] at h
  | stop => simp [kidsP] at h
  | deed s => simp [kidsP] at h
  | assume t => simp [kidsP] at h
theorem conts_len (p : Pr) : (conts p).length = (kidsP p).length := by cases p <;> rfl
def hgt : Pr → Nat
  | .thn p q => max (hgt p) (hgt q) + 1
  | .cho p q => max (hgt p) (hgt q) + 1
  | .loop p => hgt p + 1
  | .ite _ p q => max (hgt p) (hgt q) + 1
  | .whl _ p => hgt p + 1
  | .rep p _ => hgt p + 1
  | _ => 1
theorem hgt_kid {p k : Pr} {i : Nat} (h : (kidsP p)[i]? = some k) : hgt k + 1 ≤ hgt p := by
  have hm := List.mem_of_getElem? h
  cases p <;> simp [kidsP] at hm <;> (first | (rcases hm with rfl | rfl) | subst hm) <;> simp only [hgt] <;> omega
theorem hgt_pos (p : Pr) : 1 ≤ hgt p := by cases p <;> simp [hgt]
theorem size_kid {p k : Pr} {i : Nat} (h : (kidsP p)[i]? = some k) : nP k + tP k ≤ nP p + tP p ∧ nP k + 1 ≤ nP p := by
  have hm := List.mem_of_getElem? h
  cases p <;> simp [kidsP] at hm <;> (first | (rcases hm with rfl | rfl) | subst hm) <;> simp only [nP, tP] <;> omega
theorem here_len (p : Pr) : (here p).length ≤ 6 := by
  cases p <;> simp [here, kidsP, tplace]
theorem allCh_len : ∀ p : Pr, (allCh p).length ≤ 6 * nP p
  | .skip => by have := here_len .skip; simp only [allCh, nP]; omega
  | .stop => by have := here_len .stop; simp only [allCh, nP]; omega
  | .deed s => by have := here_len (.deed s); simp only [allCh, nP]; omega
  | .assume t => by have := here_len (.assume t); simp only [allCh, nP]; omega
  | .thn p q => by
    have := here_len (.thn p q)
    have := allCh_len p
    have := allCh_len q
    simp only [allCh, nP, List.length_append, List.length_map]
    omega
  | .cho p q => by
    have := here_len (.cho p q)
    have := allCh_len p
    have := allCh_len q
    simp only [allCh, nP, List.length_append, List.length_map]
    omega
  | .loop p => by
    have := here_len (.loop p)
    have := allCh_len p
    simp only [allCh, nP, List.length_append, List.length_map]
    omega
  | .ite t p q => by
    have := here_len (.ite t p q)
    have := allCh_len p
    have := allCh_len q
    simp only [allCh, nP, List.length_append, List.length_map]
    omega
  | .whl t p => by
    have := here_len (.whl t p)
    have := allCh_len p
    simp only [allCh, nP, List.length_append, List.length_map]
    omega
  | .rep p t => by
    have := here_len (.rep p t)
    have := allCh_len p
    simp only [allCh, nP, List.length_append, List.length_map]
    omega
theorem flat_len {l : List (List Pr)} : ∀ i : Nat, (l.take i).flatten.length ≤ l.flatten.length := fun i => by
  conv => rhs; rw [← List.take_append_drop i l]
  rw [List.flatten_append, List.length_append]
  omega
theorem At.nth {H : Hp} {d : D} {v : V} (a : At H d v) {n : Nat} (h : n < (items d).length) : ∃ p xs u, v = .ref p ∧ H p = some (.tup xs) ∧ xs[n]? = some u ∧ At H (K46.nth d n) u := by
  obtain ⟨p, xs, rfl, hp, ax⟩ := AtAll.inv_tup a (by omega)
  obtain ⟨u, hu, au⟩ := ax.get' (List.getElem?_eq_getElem h)
  refine ⟨p, xs, u, rfl, hp, hu, ?_⟩
  have e : K46.nth d n = (items d)[n] := by
    cases d with
    | tup ks =>
      show ks.getD n .none = ks[n]
      have h' : n < ks.length := h
      rw [List.getD_eq_getElem?_getD, List.getElem?_eq_getElem h']
      rfl
    | none => simp [items] at h
    | num i => simp [items] at h
    | text x => simp [items] at h
  rw [e]
  exact au
section
variable {P : Program} {w : World} {K : PySem.W.Frag} {mg : Str → Option Value} {base : Heap}
def spAllCh (n : Nat) : Sp := fun vs H Q _ => ∃ (p : Pr) (v : V), vs = [v] ∧ At H (encP p) v ∧ okP p = true ∧ hgt p ≤ n ∧ nP p + tP p ≤ 60 ∧ NewL H Q (allCh p)
theorem scAC : FnScope ["program", "found", "index", "part"] ["program"] (defScope sAllChanges) := ⟨rfl, rfl, rfl, by decide +kernel, rfl, by decide +kernel, by decide +kernel⟩
theorem ok_allCh {f fH fL fU : Addr} {fd fdH fdL fdU : FuncData} (F : Fun K "all_changes" "all_changes" sAllChanges f fd) (g : mg "all_changes" = some (.ref f)) (b : Binds K fd ["program"] [])
    (GH : FnOk P w K mg base CX0 3 fH fdH ["program"] spHere) (kH : PySem.W.keepIn K (.ref fH) = true) (gH : mg "changed_here" = some (.ref fH)) (bH : Binds K fdH ["program"] [])
    (GL : FnOk P w K mg base CX0 1 fL fdL ["program"] spPlaces) (kL : PySem.W.keepIn K (.ref fL) = true) (gL : mg "part_places" = some (.ref fL)) (bL : Binds K fdL ["program"] [])
    (GU : FnOk P w K mg base CX0 1 fU fdU ["program", "index", "part"] spPut) (kU : PySem.W.keepIn K (.ref fU) = true) (gU : mg "put_in_place" = some (.ref fU)) (bU : Binds K fdU ["program", "index", "part"] []) :
    ∀ n : Nat, FnOk P w K mg base CX0 (n + 3) f fd ["program"] (spAllCh n)
  | 0 => by
    have no : ∀ vs H Q E, ¬ spAllCh 0 vs H Q E := fun vs H Q E h => by
      obtain ⟨p, _, _, _, _, h1, _⟩ := h
      have := hgt_pos p
      omega
    exact ⟨fun vs H Q E h => absurd h (no vs H Q E), fun A outer s H args us vs Q E _ _ _ _ h => absurd h (no vs H Q E)⟩
  | n + 1 => by
    have G := ok_allCh F g b GH kH gH bH GL kL gL bL GU kU gU bU n
    refine F.ok scAC (fun vs H Q E h => ?_) (fun cdv A outer s H vs Q E hr h => ?_)
    · obtain ⟨p, v, rfl, _⟩ := h
      rfl
    obtain ⟨p, v, rfl, hd, hok, hh, hz, q⟩ := h
    have hr1 := hr.mono (show 1 ≤ n + 3 by omega)
    have hr3 := hr.mono (show 3 ≤ n + 3 by omega)
    refine ⟨_, pss_cons (ps_set (i := 1) scAC.nd rfl (.inl rfl) (pe_call GH hr3 (by rfl) gH kH bH .nil pass0 (pa_cons (pv 0) pa_nil)))
      (pss_cons (ps_for PassesOwn.never rfl (pi_tup (pe_call GL hr1 (by rfl) gL kL bL .nil pass0 (pa_cons (pv 0) pa_nil))) (pg_name (i := 2) scAC.nd rfl (.inr rfl))
        (pss_one (ps_set (i := 1) scAC.nd rfl (.inl rfl) (pe_op op_cat (pv 1)
          (pe_lc (own := [("part", 3)]) (g := gName 3) (tt := tYes) (te := tCall spPut [] E0 (tCons (tVar 0) (tCons (tVar 2) (tCons (tVar 3) tNil)))) rfl scAC.nd
            (pi_list (pe_call G hr (by rfl) g F.kp b .nil pass0 (pa_cons (pe_ix ix_tup (pv 0) (pv 2) (fun _ _ => rfl)) pa_nil))) (blkOk_by (N := ["program", "found", "index", "part"]) (sc := defScope sAllChanges) (by decide +kernel)) (fun _ _ _ _ _ => pg_name (i := 3) scAC.nd rfl (Or.inl rfl))
            (fun _ _ _ _ _ => pts_nil) (fun _ _ _ _ _ => pe_call GU hr1 (by rfl) gU kU bU .nil pass0 (pa_cons (pv 0) (pa_cons (pv 2) (pa_cons (pv 3) pa_nil)))))))))
      (pss_one (ps_ret (pv 1)))), ?_⟩
    have sl : ∀ n : Nat, n ≤ 1000 → n ≤ sizeLine := fun n h => Nat.le_of_lt (small1000 h)
    have tot := allCh_len p
    have eall := allCh_eq p
    refine ⟨v, rfl, p, v, rfl, hd, hok, fun H1 l1 us1 s1 nl1 hl1 au1 => ?_⟩
    refine ⟨v, rfl, p, v, rfl, hd.tm (TM.same s1), fun H2 pa s2 hpa => ?_⟩
    have s12 := s1.trans s2
    refine ⟨pa, rfl, ⟨_, SqT.of hpa⟩, ?_⟩
    refine for_tup (K := K) (a := pa) (xs := (places p).map fun n => V.int (n : Nat)) (fun i σ H' => ∃ (l : Addr) (us : List V) (x2 x3 : Option V), σ = [some v, some (.ref l), x2, x3] ∧ Same H2 H' ∧ H l = none ∧ H' l = some (.lst us) ∧ AtAll H' ((here p ++ ((conts p).take i).flatten).map encP) us)
      ⟨l1, us1, none, none, rfl, Same.refl _, nl1, s2 _ _ hl1, ?_⟩ (fun i σ H' _ ⟨_, _, _, _, _, sm, _⟩ => SqT.of (sm _ _ hpa)) ?_ ?_
    · show AtAll H2 ((here p ++ []).map encP) us1
      rw [List.append_nil]
      exact au1.tm (TM.same s2)
    · rintro i x σ H3 hx ⟨l, us, x2, x3, rfl, sm, nl, hl, au⟩
      obtain ⟨m, hm, rfl⟩ : ∃ m, (places p)[i]? = some m ∧ x = V.int (m : Nat) := by
        rw [List.getElem?_map] at hx
        cases e : (places p)[i]? with
        | none => rw [e] at hx; cases hx
        | some z => rw [e] at hx; exact ⟨z, rfl, (Option.some.inj hx).symm⟩
      obtain ⟨k, hk, hnth, h1m, hml, hput⟩ := places_kid hm
      have s13 := s12.trans sm
      obtain ⟨a0, xs0, u0, rfl, ha0, hu0, au0⟩ := (hd.tm (TM.same s13)).nth hml
      rw [hnth] at au0
      have hkz := size_kid hk
      have hkh := hgt_kid hk
      have hkt := allCh_len k
      have hlu := au.length
      rw [List.length_map] at hlu
      have hfl := flat_len (l := conts p) i
      rw [eall, List.length_append] at tot
      rw [List.length_append] at hlu
      refine ⟨_, rfl, ?_⟩
      refine ⟨_, rfl, _, rfl, a0, xs0, m, u0, rfl, rfl, SqT.of ha0, atI_nat hu0, ?_⟩
      refine ⟨k, u0, rfl, au0, kidsP_ok hok k (List.mem_of_getElem? hk), by omega, by omega, fun H4 lk uk s4 nlk hlk auk => ?_⟩
      have luk := auk.length
      rw [List.length_map] at luk
      refine ⟨lk, rfl, ⟨_, SqL.of hlk⟩, fun D1 nD1 => ?_⟩
      refine lc_list (K := K) (a := lk) (xs := uk) (fun j H' => Same H4 H' ∧ ∃ bs : List V, H' D1 = some (.lst bs) ∧ AtAll H' ((((allCh k).take j).map (withP p i)).map encP) bs) ⟨same_new nD1, [], upd_same, .nil⟩ (fun j H' _ ⟨sm, _⟩ => SqL.of (sm _ _ hlk)) ?_ ?_
      · rintro j x H5 hx5 ⟨s5, bs, hD, hb⟩
        obtain ⟨r, hr5, ar5⟩ := getE auk hx5
        refine ⟨rfl, ?_⟩
        refine ⟨_, rfl, _, rfl, _, rfl, encP p, encP r, .ref a0, x, m, rfl, hd.tm (TM.same (s13.trans (s4.trans s5))), ar5.tm (TM.same s5), h1m, hml, Nat.le_trans (encP_items4 p) (by decide), fun H6 z s6 az => ?_⟩
        have lbs := hb.length
        rw [List.length_map, List.length_map, List.length_take] at lbs
        refine ⟨bs, s6 _ _ hD, small1000 (by omega), same_mut (s5.trans s6) nD1, _, upd_same, ?_⟩
        rw [take_more hr5, List.map_append, List.map_append, ← hput r] at *
        exact ((hb.tm (TM.same s6)).append (.cons az .nil)).tm (TM.lst (s6 _ _ hD))
      · rintro H5 ⟨s5, bs, hD, hb⟩
        have etk : (allCh k).take uk.length = allCh k := List.take_of_length_le (by omega)
        rw [etk] at hb
        have lbs := hb.length
        rw [List.length_map, List.length_map] at lbs
        refine ⟨l, D1, us, bs, rfl, rfl, s5 _ _ (s4 _ _ hl), hD, sl _ (by omega), fun l9 n9 => ?_⟩
        have s9 := same_new (H := H5) (o := .lst (us ++ bs)) n9
        have s49 := s4.trans (s5.trans s9)
        refine ⟨l9, us ++ bs, _, _, rfl, sm.trans s49, s12.free (sm.free (s4.free (s5.free n9))), upd_same, ?_⟩
        rw [take_more (conts_at hk), List.flatten_append, ← List.append_assoc, List.map_append]
        refine (au.tm (TM.same s49)).append ?_
        simp only [List.flatten_cons, List.flatten_nil, List.append_nil]
        exact hb.tm (TM.same s9)
    · rintro σ H3 ⟨l, us, x2, x3, rfl, sm, nl, hl, au⟩
      have etk : (conts p).take ((places p).map fun n => V.int (n : Nat)).length = conts p := List.take_of_length_le (by rw [List.length_map, places_len, conts_len]; exact Nat.le_refl _)
      rw [etk, ← eall] at au
      exact ⟨_, rfl, q H3 l us (s12.trans sm) nl hl au⟩
end
end K46

set_option Elab.async false
set_option linter.all false
set_option maxRecDepth 100000
set_option maxHeartbeats 4000000
/-! Dicts whose keys are nested tuples: {}, d[k] = True, tuple(d). -/
namespace K46
open PySem PySem.Spec PyProof.Rows L2
section
variable {prog : Program} {w : World} {A : Around} {s : Shared} {E : Value → Shared → Prop} {r d : Addr} {T : String} {n : Nat} {OK : Heap → Prop} {P : Nat → Value → Prop}
/-- what a walk of the dict leaves: got, its keys; all else as it was -/
def Walked (P : Nat → Value → Prop) (n : Nat) (h0 h1 : Heap) (got : Array Value) : Prop := (∀ b o, h0.get? b = some o → h1.get? b = some o) ∧ ItemsOf P got n
/-- the items of a dict, collected in a list that is thrown away -/
theorem collect_keys {Post : List Value → Shared → Prop} (src : PySem.W.KdlSrc prog w T r d n P OK) (calm : A.handled = none) (fine : OK s.heap) (small : n ≤ sizeLine)
    (go : ∀ (h1 : Heap) (k1 : Nat) (got : Array Value), Walked P n s.heap h1 got → Post got.toList { s with heap := h1, toks := k1 }) : wpAny (model prog w) A (collect (.ref r)) Post E s := by
  have ends : ∀ (h1 : Heap) (k1 : Nat) (got : Array Value) (cap : Nat), Walked P n s.heap h1 got → h1.get? s.heap.objs.size = some { cls := .type "list", dict := none, data := .seq got cap, slots := #[] } →
      wpAny (model prog w) A (load s.heap.objs.size >>= fun o => match o.data with | .seq vs _ => pure vs.toList | _ => unsupported "internal:collect") Post E { s with heap := h1, toks := k1 } := fun h1 k1 got cap wk e => wpAny_bind (wpAny_load e (wpAny_pure (go h1 k1 got wk)))
  unfold collect
  refine wpAny_bind (wpAny_runValue (codeAny_builtin F.entry_proto_collect ?_)); rw [Around.under_plainId F.plain_proto_collect _]
  refine wpAny_bind (m := newList []) (wpAny_newObj_type (wpAny_pure ⟨plainId_quiet F.plain_list_iadd _, codeAny_builtin F.entry_list_iadd ?_⟩)); rw [Around.under_plainId F.plain_list_iadd _]
  have new : (s.heap.push { cls := .type "list", data := .seq ([] : List Value).toArray }).get? s.heap.objs.size = some { cls := .type "list", data := .seq #[] 0 } := Heap.get?_push_size _ rfl
  obtain ⟨far1, far2⟩ := src.there s.heap fine
  refine wpAny_mono (PySem.W.kdl_extend (A := A) (R := fun res t => res = .ok (.ret (.ref s.heap.objs.size)) ∧ ∃ (h1 : Heap) (k1 : Nat) (got : Array Value) (cap : Nat), t = { s with heap := h1, toks := k1 } ∧ Walked P n s.heap h1 got ∧
      h1.get? s.heap.objs.size = some { cls := .type "list", dict := none, data := .seq got cap, slots := #[] })
    (s := { s with heap := s.heap.push { cls := .type "list", data := .seq ([] : List Value).toArray } }) src calm (src.keep _ _ fine fun b _ o e => Heap.get?_push_of_some _ e) s.heap.objs.size
    (Nat.ne_of_gt (by first | exact far1 | exact far2)) (Nat.ne_of_gt (by first | exact far2 | exact far1)) _ 0 new
    (fun h1 k1 got cap kp e it => ⟨rfl, h1, k1, got, cap, rfl, ⟨fun b o z => kp b o (Nat.ne_of_lt (Heap.lt_size z)) (Heap.get?_push_of_some _ z), it⟩, e⟩) small) (fun fin t res => ?_) (fun e t res => absurd res.1 (by simp))
  match fin, res with
  | .done fl, ⟨er, h1, k1, got, cap, et, wk, e⟩ =>
    subst et
    cases er
    exact ends h1 k1 got cap wk e
  | .again cd, ⟨quiet, run⟩ =>
    refine ⟨quiet, codeAny_mono run fun res t ⟨er, h1, k1, got, cap, et, wk, e⟩ => ?_⟩
    subst er et
    exact ends h1 k1 got cap wk e
/-- tuple(d) -/
theorem call_tuple_keys {Post : Value → Shared → Prop} (src : PySem.W.KdlSrc prog w "dict" r d n P OK) (calm : A.handled = none) (fine : OK s.heap) (small : n ≤ sizeLine)
    (go : ∀ (h1 : Heap) (k1 : Nat) (got : Array Value), Walked P n s.heap h1 got → Post (.ref h1.objs.size) { s with heap := h1.push { cls := .type "tuple", data := .seq got }, toks := k1 }) : wpAny (model prog w) A (call (.type "tuple") [.ref r]) Post E s := by
  have code : codeAny (model prog w) A.in1 (.call (.builtin "tuple.__new__") ⟨[.type "tuple", .ref r], []⟩) (wants (fun v t => t.TypeIs v "tuple" ∧ Post v t) E) s := by
    refine codeAny_of_tree (wpAny_bind (m := checkBuiltinCall "tuple.__new__" ⟨[.type "tuple", .ref r], []⟩) (wpAny_of_eq (F.newCall_tuple_1 _) (wpAny_pure ⟨plainId_quiet F.plain_tuple_new _, codeAny_builtin F.entry_tuple_new ?_⟩)))
    rw [Around.under_plainId F.plain_tuple_new _]
    have t1 := sub_tuple_self
    have t2 := init_tuple_lookup
    have t3 := madeHere_tuple
    have ty : s.TypeIs (.ref r) "dict" := src.type s fine
    have calm2 : A.in1.in1.handled = none := calm
    wp_walk using wpAny_typeOf ty, collect_keys (A := A.in1.in1) src calm2 fine small
    intro h1 k1 got wk
    have back : got.toList.toArray = got := by simp
    have len : got.toList.toArray.size ≤ sizeLine := by rw [back, wk.2.1]; exact small
    show wpAny _ _ (Builtin.Tuple.tupleExact got.toList.toArray >>= fun v => ret v) _ _ _
    rw [back] at len ⊢
    exact wpAny_bind (wpAny_newObj_type (wpAny_pure ⟨⟨_, Heap.get?_push_size _ rfl, rfl⟩, go h1 k1 got wk⟩) len)
  exact callType_codes (Q₁ := fun v t => t.TypeIs v "tuple" ∧ Post v t) F.called_tuple (F.typeCall_tuple_1 _) F.entry_object_init code fun v t ⟨ty, z⟩ =>
    ⟨ty, F.args_object_init_2 v _, object_init_meets F.called_tuple.init.lookup F.called_tuple.made (by decide) prog w A.in1 _ t ⟨ty, rfl, z⟩⟩
end
/-! ### a tracked nested tuple is a key -/
section
variable {P : Program} {w : World} {H : Hp} {h : Heap}
mutual
theorem At.key (ok : HOk P w H h) : ∀ {k : D} {v : V} {u : Value}, At H k v → RelV v u → NestedIs h k u
  | _, _, _, .none, r => by
    cases r
    exact .none
  | _, _, _, .num i, r => by
    obtain ⟨t, rfl⟩ := r
    exact .int i t
  | _, _, _, .text x o, r => by
    obtain ⟨t, rfl⟩ := r
    exact .text x t
  | _, _, _, .tup e q, r => by
    cases r
    obtain ⟨_, its, rv, o, h1, h2, n, h3⟩ := (show ObjOk P w H h _ (.tup _) from ok _ _ e)
    exact .tup h1 h2 h3 (by simpa using AtAll.key ok q rv)
theorem AtAll.key (ok : HOk P w H h) : ∀ {ks : List D} {vs : List V} {us : List Value}, AtAll H ks vs → Vals vs us → NestedAll h ks us
  | _, _, _, .nil, .nil => .nil
  | _, _, _, .cons a b, .cons r t => .cons (At.key ok a r) (AtAll.key ok b t)
end
end
/-! ### the dict -/
def ndE (xs : List (D × Addr)) : List (D × Addr × Value) := xs.map fun x => (x.1, x.2, .bool true)
def ndO (P : Program) (w : World) (d : Addr) (xs : List (D × Addr)) : HO :=
  .ext fun h => (d == sysModules) = false ∧ xs.length ≤ sizeLine ∧ ∃ o es ep, h.get? d = some o ∧ o.ExactDict ∧ o.data = .dict es ep ∧ es.toList = (ndE xs).map (entryOfKey (nestedKind P w))
def putN (xs : List (D × Addr)) (k : D) (a : Addr) : List (D × Addr) := if k ∈ xs.map (·.1) then xs else xs ++ [(k, a)]
/-- what is known of its keys -/
structure NdK (H : Hp) (xs : List (D × Addr)) : Prop where
  at_ : ∀ z ∈ xs, At H z.1 (.ref z.2) ∧ z.1.depth ≤ 8
  nd : (xs.map (·.1)).Nodup
section
variable {P : Program} {w : World} {H : Hp} {h : Heap} {d : Addr} {xs : List (D × Addr)}
theorem nd_ok {o : Obj} {es : Array DictEntry} {ep : Nat} (hs : (d == sysModules) = false) (hl : xs.length ≤ sizeLine) (ho : h.get? d = some o) (hx : o.ExactDict) (hd : o.data = .dict es ep) (he : es.toList = (ndE xs).map (entryOfKey (nestedKind P w))) : ObjOk P w H h d (ndO P w d xs) :=
  ⟨⟨hs, hl, o, es, ep, ho, hx, hd, he⟩, ⟨o, ho⟩, fun h1 h2 ⟨hs, hl, o, es, ep, ho, hx, hd, he⟩ st => ⟨hs, hl, o, es, ep, st _ ho, hx, hd, he⟩⟩
theorem nd_at (ok : HOk P w H h) (e : H d = some (ndO P w d xs)) : (d == sysModules) = false ∧ xs.length ≤ sizeLine ∧ ∃ o es ep, h.get? d = some o ∧ o.ExactDict ∧ o.data = .dict es ep ∧ es.toList = (ndE xs).map (entryOfKey (nestedKind P w)) := (ok _ _ e).1
theorem nd_dict (ok : HOk P w H h) (e : H d = some (ndO P w d xs)) (k : NdK H xs) : h.DictOfH (nestedKind P w) d (ndE xs) := by
  obtain ⟨_, _, o, es, ep, ho, hx, hd, he⟩ := nd_at ok e
  refine ⟨o, es, ep, ho, hx, hd, he, fun x hx => ?_, ?_⟩
  · obtain ⟨z, hz, rfl⟩ := List.mem_map.mp hx
    exact ⟨At.key ok (k.at_ z hz).1 rfl, (k.at_ z hz).2⟩
  · have e1 : (ndE xs).map (·.1) = xs.map (·.1) := by
      unfold ndE
      rw [List.map_map]
      rfl
    rw [e1]
    exact k.nd
theorem stored_nd (k : D) (a : Addr) : storedH (ndE xs) k a (.bool true) = ndE (putN xs k a) := by
  have e1 : (atKey (ndE xs) k).isSome = decide (k ∈ xs.map (·.1)) := by
    unfold atKey ndE
    rw [Option.isSome_map]
    induction xs with
    | nil => rfl
    | cons x r ih =>
      rw [List.map_cons, List.find?_cons]
      by_cases c : x.1 = k
      · simp [c]
      · have c' : ¬ k = x.1 := fun z => c z.symm
        simp only [c, decide_false, List.map_cons, List.mem_cons, c', false_or]
        exact ih
  unfold storedH putN
  rw [e1]
  by_cases c : k ∈ xs.map (·.1)
  · rw [if_pos c, if_pos (decide_eq_true c)]
    unfold ndE
    rw [List.map_map]
    refine List.map_congr_left fun x _ => ?_
    show putAt k (Value.bool true) (x.1, x.2, Value.bool true) = _
    unfold putAt
    split <;> rfl
  · rw [if_neg c, if_neg (by rw [decide_eq_false c]; exact Bool.false_ne_true)]
    unfold ndE
    rw [List.map_append]
    rfl
end
def tDNewN (P : Program) (w : World) : TE := fun _ H Q => ∀ p, H p = none → Q (.ref p) (upd H p (ndO P w p []))
section
variable {X : Cx} {pos pos' : Pos} {o i value : Expr} {td ty tv : TE}
theorem pe_dnewN : PE X (.Dict [] [] pos) (tDNewN X.prog X.w) := ⟨fun pins s σ H Q I h =>
  wpAny_Dict_empty ⟨.ref s.heap.objs.size, _, I.laid (a := s.heap.objs.size) (o := ndO X.prog X.w s.heap.objs.size []) (t' := s.toks) (fun _ _ q => Heap.get?_push_of_some _ q) (Nat.le_refl _)
    (nd_ok (beq_eq_false_iff_ne.mpr (Ne.symm (Nat.ne_of_lt I.big))) (Nat.zero_le _) (Heap.get?_push_size _ rfl) ⟨rfl, rfl, rfl⟩ rfl rfl), rfl, h _ (I.hok.fresh (Nat.le_refl _))⟩⟩
/-- d[k] = True -/
def sNPut (P : Program) (w : World) (td ty tv : TE) : TS := fun De σ H => tv σ H fun v H1 => td σ H1 fun x H2 => ty σ H2 fun y H3 => ∃ (d : Addr) (xs : List (D × Addr)) (k : D) (a : Addr),
  v = .bl true ∧ x = .ref d ∧ y = .ref a ∧ H3 d = some (ndO P w d xs) ∧ NdK H3 xs ∧ At H3 k (.ref a) ∧ k.depth ≤ 8 ∧ xs.length < sizeLine ∧ De.nx σ (upd H3 d (ndO P w d (putN xs k a)))
theorem ps_nput (hu : X.A.units + 16 < cLine) (ho : PE X o td) (hi : PE X i ty) (hv : PE X value tv) (hs : swapsWith value (some (.Subscript o i pos')) pos.line X.env = pure false := by rfl) :
    PS X (.Assign [.Subscript o i pos'] value pos) (sNPut X.prog X.w td ty tv) := by
  refine ⟨fun pins s σ H De I h => ?_⟩
  refine wpAny_Assign_Subscript (thn (hv.run pins s σ H _ I h) fun r s1 ⟨v, H1, I1, rv, q1⟩ => thn (ho.run pins s1 σ H1 _ I1 q1) fun u s2 ⟨x, H2, I2, rx, q2⟩ => thn (hi.run pins s2 σ H2 _ I2 q2) fun iv s3 ⟨y, H3, I3, ry, d, xs, k, a, ev, ex, ey, e, nk, ak, dk, lx, q3⟩ => ?_) hs
  subst ev ex ey
  obtain rfl : u = Value.ref d := rx
  obtain rfl : iv = Value.ref a := ry
  obtain rfl : r = Value.bool true := rv
  have dd := nd_dict I3.hok e nk
  obtain ⟨hsm, _⟩ := nd_at I3.hok e
  have hz : (ndE xs).length ≤ sizeLine := by
    unfold ndE
    rw [List.length_map]
    exact Nat.le_of_lt lx
  refine wpAny_setItem_heap (hsz := hz) (knd := nestedKind X.prog X.w) (k := k) (by show X.A.in1.units + 8 < cLine; show X.A.units + 1 + 8 < cLine; omega) ⟨At.key I3.hok ak rfl, dk⟩ dd fun h' dd' hsb => ?_
  rw [stored_nd] at dd'
  obtain ⟨q, es, ep, hq, h2, h3, h4, _, _⟩ := dd'
  have hl : (putN xs k a).length ≤ sizeLine := by
    unfold putN
    split
    · exact Nat.le_of_lt lx
    · rw [List.length_append]
      exact lx
  exact ⟨σ, _, I3.write (x := d) (e := d) (o := ndO X.prog X.w d (putN xs k a)) (by rw [e]; exact True.intro) (.inl rfl) (fun b u hb he => (hsb.2 b hb).trans he) ⟨q, hq⟩ (nd_ok hsm hl hq h2 h3 h4), q3⟩
/-- tuple(d) -/
theorem call_tuple_nd (hc : X.calm = true) : CallR X (.type "tuple") (fun vs H Q => ∃ (d : Addr) (xs : List (D × Addr)), vs = [.ref d] ∧ H d = some (ndO X.prog X.w d xs) ∧ ∀ p, H p = none → Q (.ref p) (upd H p (.tup (xs.map fun x => V.ref x.2)))) := by
  intro pins s σ H vs us Q I r h
  obtain ⟨d, xs, rfl, hd, q⟩ := h
  obtain ⟨u, rfl, rx⟩ := r.one
  cases rx
  obtain ⟨hs, hl, ob, es, ep, ho, hx, hdt, he⟩ := nd_at I.hok hd
  have l1 : es.size = xs.length := by
    have := congrArg List.length he
    simpa [ndE] using this
  refine call_tuple_keys (kdl_raw hs hx hdt) (I.ok.hd hc) ho (by omega) fun h' tk acc ⟨kp, it⟩ => ?_
  have at_ : ∀ j : Nat, es.toList[j]? = (xs[j]?).map fun x => entryOfKey (nestedKind X.prog X.w) (x.1, x.2, Value.bool true) := fun j => by
    rw [he, ndE, List.map_map, List.getElem?_map]
    rfl
  have ea : acc.toList = xs.map fun x => Value.ref x.2 := by
    refine List.ext_getElem? fun j => ?_
    have hz := it.1
    rcases Nat.lt_or_ge j acc.size with lt | ge
    · obtain ⟨ent, pe, pv'⟩ := it.2 j acc[j] (Array.getElem?_eq_getElem lt)
      have q1 := at_ j
      rw [Array.getElem?_toList, pe] at q1
      have q2 : xs[j]? = some xs[j] := List.getElem?_eq_getElem (by omega)
      rw [q2] at q1
      have q3 := Option.some.inj q1
      rw [List.getElem?_map, q2, Array.getElem?_toList, Array.getElem?_eq_getElem lt, pv', q3]
      rfl
    · rw [List.getElem?_map, List.getElem?_eq_none_iff.mpr (by rw [Array.length_toList]; exact ge), List.getElem?_eq_none_iff.mpr (show xs.length ≤ j by omega)]
      rfl
  have rv : Vals (xs.map fun x => V.ref x.2) acc.toList := by
    rw [ea]
    clear at_ ea it he l1 hl q hd
    induction xs with
    | nil => exact .nil
    | cons x r ih => exact .cons rfl ih
  have I2 : Inv X pins σ H { s with heap := h', toks := tk } := I.kept kp
  refine ⟨.ref h'.objs.size, _, I2.laid (t' := tk) (o := .tup (xs.map fun x => V.ref x.2)) (fun c o e => Heap.get?_push_of_some _ e) (Nat.le_refl _) ?_, rfl, q _ (I2.hok.fresh (Nat.le_refl _))⟩
  exact ⟨by rw [List.length_map]; exact hl, acc.toList, rv, by rw [Array.toArray_toList]; exact IsTup.new _ _⟩
end
end K46

set_option Elab.async false
set_option linter.all false
set_option maxRecDepth 100000
set_option maxHeartbeats 4000000
/-! An own exception over an own one over ValueError, whose __init__ says super().__init__(value) and stores one field: made. -/
namespace PySem
namespace SupX
open PySem.W PySem.Calls PyProof.Rows PySem.HandSPX
/-! ### the text of __init__ -/
def ip (a b c : Nat) : Pos := ⟨a, b, a, c⟩
def iA : Arguments := { posonlyargs := [], args := [{ arg := "self", annotation := none, pos := ip 6 17 21 }, { arg := "value", annotation := none, pos := ip 6 23 28 }], vararg := none, kwonlyargs := [], kw_defaults := [], kwarg := none, defaults := [] }
def iB : List Stmt := [.Expr (.Call (.Attribute (.Call (.Name "super" (ip 7 8 13)) [] [] (ip 7 8 15)) "__init__" (ip 7 8 24)) [.Name "value" (ip 7 25 30)] [] (ip 7 8 31)) (ip 7 8 31), .Assign [.Attribute (.Name "self" (ip 8 8 12)) "value" (ip 8 8 18)] (.Name "value" (ip 8 21 26)) (ip 8 8 26)]
def iS : Scope := { kind := .function, names := [(PySem.Str.ofString "self", .local), (PySem.Str.ofString "value", .local), (PySem.Str.ofString "__class__", .free), (PySem.Str.ofString "super", .globalImplicit)], isGenerator := false, isCoroutine := false, more := [] }
/-- what the written part says of the class at C and of its __init__, at fI; cc: the cell of __class__; cda: the code object -/
structure SupTxt (prog : Program) (K : Frag) (mg : Str → Option Value) (nmC : Str) (C fI : Addr) : Prop where
  gC : mg nmC = some (.ref C)
  cls : ∃ nm q N bs bm sn sub ab col dd k0 k1 k2 k3 k5, K.lookup C = some (excClassObj nm q C N bs bm true sn sub ab col dd k0 k1 k2 k3 k5 "ValueError.__new__") ∧ refsVE bm = true ∧ alongIn K "__init__" bm = some (some (.builtin "ValueError.__init__"))
  sa : findIn K (.ref C) "__setattr__" = some (some (.builtin "object.__setattr__"))
  ga : findIn K (.ref C) "__getattribute__" = some (some (.builtin "BaseException.__getattribute__"))
  gg : findIn K (.ref C) "__getattr__" = some none
  noN : findIn K (.ref C) "value" = some none
  iC : findIn K (.ref C) "__init__" = some (some (.ref fI))
  tC : typeIn K (.ref fI) = some (.type "function")
  kC : keepIn K (.ref C) = true
  exC : subIn K (.ref C) (.type "BaseException") = some true
  veC : subIn K (.ref C) (.type "ValueError") = some true
  seC : mroIn K C (.ref C) = some true
  tyC : typeIn K (.ref C) = some (.type "type")
  hdC : hasDictIn K C = true
  te : exmOne K (.ref C) (.ref C) = some true
  opq : nsIn K cStatics "thirdparty.any" = some none
  sup : mg "super" = none
  top : (prog.main.scope.names.lookup ("super" : Str)).isSome = false
  fn : ∃ (oc : Value) (od : Option Addr) (doc pm : Value) (an : Option Addr) (cda cc : Addr) (ct : Value) (osl : Array (Option Value)) (qual : Str) (ccl cl : Value) (cdd cld : Option Addr) (ccs csl : Array (Option Value)) (vs : Array Value) (file : Str) (tf : Tok),
    K.lookup fI = some ⟨oc, od, .func (ksFn "__init__" qual iA iB iS .none .none doc pm an (.ref cda) ct cc), osl⟩ ∧ codeIn K (.ref cda) qual = true ∧
    K.lookup cda = some ⟨ccl, cdd, .fields vs, ccs⟩ ∧ vs[2]? = some (.str file tf) ∧ ((prog.main.file : Str) == file) = true ∧ K.lookup cc = some ⟨cl, cld, .cell (some (.ref C)), csl⟩
theorem one_size (v : Value) : [v].length ≤ sizeLine := by
  rw [sizeLine_eq]
  exact (by decide : 1 ≤ 16777216)
section
variable {M : Model} {A : Around} {s : Shared} {E : Value → Shared → Prop}
/-- f(e), f a slot that is bound -/
theorem call1_bound {pos : Pos} {f x : Addr} {env : Env} {ex : Expr} {i : String} {Post : Value → Shared → Prop} (one : starEach [ex] env = [(false, eval ex env)])
    (h : wpAny M A (eval ex env) (fun v t => t.heap.get? f = some (kxs_mw i x) ∧ wpAny M A (call (.ref f) [v]) Post E t) E s) : wpAny M A (callWith pos (.ref f) [] (backTo pos (starEach [ex] env)) []) Post E s := by
  rw [one]
  refine kxs_callWith (i := i) (x := x) rfl ?_
  refine evalArgs_plain ?_
  exact Calls.spliced_cons (wpAny_mono h (fun v t z => Calls.spliced_nil z) fun _ _ z => z)
end
section
variable {prog : Program} {w : World} {A : Around} {E : Value → Shared → Prop} {h : Heap} {gs : Array GenState} {dn : Drawn} {tk : Nat} {os : OsState}
variable {nm qn : Str} {C N : Addr} {bs bm sub : List Value} {own ab : Bool} {sn : List Str} {col : Option Bool} {dd : Option Addr} {k0 k1 k2 k3 k5 : Option Value}
/-- ValueError.__init__, bound to an exception at ex, called: its args are laid anew -/
theorem call_init_bound {f ex old : Addr} {more : List Value} {Post : Value → Shared → Prop} (cl : h.get? C = some (excClassObj nm qn C N bs bm own sn sub ab col dd k0 k1 k2 k3 k5 "ValueError.__new__")) (ob : h.get? ex = some (excO C old))
    (bd : h.get? f = some (kxs_mw "ValueError.__init__" ex)) (few : more.length ≤ sizeLine) (go : ∀ h' new, (∀ b o, b ≠ ex → h.get? b = some o → h'.get? b = some o) → h'.get? ex = some (excO C new) → Post .none ⟨h', gs, dn, tk, os⟩) :
    wpAny (model prog w) A (call (.ref f) more) Post E ⟨h, gs, dn, tk, os⟩ := by
  have ids : (Value.type "method-wrapper" == Value.type "method" || Value.type "method-wrapper" == Value.type "builtin_function_or_method" || Value.type "method-wrapper" == Value.type "method-wrapper") = true := by decide
  refine wpAny_call (codeAny_of_tree (show wpAny _ A.in1 (callAny (.ref f) ⟨more, []⟩) _ _ _ from ?_))
  simp only [callAny]
  refine wpAny_bind (wpAny_load bd ?_); simp only [kxs_mw, ids, if_true]
  refine KFB.if_so (by decide) (wpAny_bind (check_bound_init F.excBase_ValueError.toExcCallFacts cl ob rfl (wpAny_bind (wpAny_pure (wpAny_pure ?_)))))
  refine ⟨plainId_quiet F.excBase_ValueError.init.plain _, codeAny_builtin F.excBase_ValueError.initEntry ?_⟩
  rw [Around.under_plainId F.excBase_ValueError.init.plain _]; wp_walk
  exact go _ h.objs.size (fun b o ne at_b => (Heap.get?_update_other _ _ (Ne.symm ne)).trans (Heap.get?_push_of_some _ at_b)) (by rw [Heap.get?_update_self _ (Heap.get?_push_of_some _ ob) rfl]; rfl)
end
/-- what __init__ leaves of a fresh exception at x -/
structure InitEnd (h h' : Heap) (x C dx t1 : Addr) (v : Value) : Prop where
  keep : ∀ b o, b ≠ x → h.get? b = some o → h'.get? b = some o
  obj : h'.get? x = some { cls := .ref C, dict := some dx, data := .fields #[.ref t1, .none, .none, .none, .bool false, .none] }
  dbig : h.objs.size ≤ dx
  dne : dx ≠ x
  ns : h'.Ns1 dx (fun y => if y = "value" then some v else none)
/-- a made one -/
structure OwnMade (h h' : Heap) (e C d : Addr) (v : Value) : Prop where
  keep : ∀ b o, h.get? b = some o → h'.get? b = some o
  new : h.objs.size ≤ e
  obj : ∃ oe vs, h'.get? e = some oe ∧ oe.cls = .ref C ∧ oe.dict = some d ∧ oe.data = .fields vs ∧ vs[1]? = some .none
  dbig : h.objs.size ≤ d
  dne : d ≠ e
  ns : h'.Ns1 d (fun y => if y = "value" then some v else none)
section
variable {prog : Program} {w : World} {A : Around} {E : Value → Shared → Prop} {R : Result → Shared → Prop} {s : Shared} {K : Frag} {mg mb : Str → Option Value} {nmC : Str} {C fI : Addr}
theorem kept_but {K : Frag} {h h' : Heap} {x : Addr} (X : K.In h) (hx : K.lookup x = none) (k : ∀ b o, b ≠ x → h.get? b = some o → h'.get? b = some o) : K.In h' := fun a o e =>
  k a o (fun z => by rw [z, hx] at e; cases e) (X a o e)
theorem iS_noCell : ∀ x ∈ iS.names, x.2 ≠ .cell := by decide
theorem iS_locals (a b : Value) : ∀ x ∈ ([(PySem.Str.ofString "self", a), (PySem.Str.ofString "value", b)] : List (Str × Value)), iS.names.lookup x.1 = some .local := by
  intro x hx
  cases hx with
  | head => rfl
  | tail _ h2 =>
    cases h2 with
    | head => rfl
    | tail _ h3 => cases h3
theorem sup_init (T : SupTxt prog K mg nmC C fI) {x t0 : Addr} {v : Value} (X : K.In s.heap) (hlim : s.heap.NoLimit) (G : s.heap.Ns mainGlobals mg) (Bn : s.heap.Ns builtinsNs mb) (hb : mb "super" = some (.type "super")) (hx : s.heap.get? x = some (excO C t0)) (hnx : K.lookup x = none) (hroom : A.depth < recursionLimit)
    (hq : ∀ h' tk dx t1, InitEnd s.heap h' x C dx t1 v → R (.ok (.ret .none)) { s with heap := h', toks := tk }) :
    codeAny (model prog w) A (.call (.ref fI) ⟨[.ref x, v], []⟩) R s := by
  obtain ⟨oc, od, doc, pm, an, cda, cc, ct, osl, qual, ccl, cl, cdd, cld, ccs, csl, vs, file, tf, ho, hcd, hcode, hvs, hfile, hcell⟩ := T.fn
  obtain ⟨nm, q, N, bs, bm, sn, sub, ab, col, dd, k0, k1, k2, k3, k5, hC, hbm, hal⟩ := T.cls
  have hcl : clsIn K C = some { name := nm, bases := bs, mro := .ref C :: bm, ns := N, qualname := q, hasDict := true, slotNames := sn, subclasses := sub, abstract := ab, collection := col, hasDel := false } := by unfold clsIn; rw [hC] <;> rfl
  refine ks_codeAny_call_defAt (binds := [("self", .ref x), ("value", v)]) hroom (X _ _ ho) rfl hlim (codeRec_of X hcd) rfl (BindsTo.of_eq (by first | rfl | with_unfolding_all rfl)) iS_noCell (iS_locals _ _) (fun h₁ hns hk₁ => ?_)
  have X₁ : K.In h₁ := X.keeps hk₁
  have hx₁ := hk₁ _ _ hx
  have xL : x < s.heap.objs.size := Heap.lt_size hx
  have oC₁ := X₁ _ _ hC
  -- super().__init__(value)
  refine ks_wpAt_execs_cons (ks_wpAt_Expr_any ?_)
  refine ks_wpAt_MethodCall ?_
  refine ks_wpAt_super_base (of := ⟨oc, od, .func (ksFn "__init__" qual iA iB iS .none .none doc pm an (.ref cda) ct cc), osl⟩) (cc := cda) (ar := { arg := "self", annotation := none, pos := ip 6 17 21 }) rfl rfl (by decide) rfl (X₁ _ _ ho) rfl rfl rfl (X₁ _ _ hcode) rfl hvs hfile T.top ?_
  · refine ks_loadName_global rfl rfl (loadGlobal_builtin (G.keeps hk₁) T.sup (Bn.keeps hk₁) hb ⟨rfl, ?_⟩)
    refine wpAny_loadName_free rfl rfl (c := cc) rfl ⟨_, X₁ _ _ hcell, rfl⟩ ?_
    refine wpAny_loadName_local (v := .ref x) rfl rfl hns rfl ?_
    refine ks_wpAny_isType_cls oC₁ rfl ⟨rfl, ?_⟩
    refine ks_wpAny_call_super oC₁ rfl hx₁ rfl (fun c e => nomatch e) (looks_mroIn X₁ T.seC) (fun h₂ e₂ k₂ => ?_)
    have X₂ : K.In h₂ := X₁.keeps k₂
    have hx₂ := k₂ _ _ hx₁
    have I₂ : InstAt h₂ x (excO C t0) C none := ⟨hx₂, rfl, rfl, trivial⟩
    refine kxs_getMethod kxs_ValueError e₂ (looks_opaque X₂ T.opq) (l₀ := .ref C :: bm) (fun A Q E s k q => wpAny_bind ((looks_clsIn X₂ hcl) A _ E s k (wpAny_pure q))) (ESX.drop_own C bm) X₂ hal (I₂.type.andThen (looks_subIn X₂ T.veC)) (ks_ne X₂ I₂ hcl) (by decide) ?_
    refine call1_bound (i := "ValueError.__init__") (x := x) (ex := .Name "value" (ip 7 25 30)) (by rfl) ?_
    have k₃ : ∀ b o, h₂.get? b = some o → (h₂.push (kxs_mw "ValueError.__init__" x)).get? b = some o := fun b o e => Heap.get?_push_of_some _ e
    have hns₃ := (hns.keeps k₂).keeps k₃
    refine (ESX.ldL (m := fun y => ([("self", Value.ref x), ("value", v)] : List (Str × Value)).reverse.lookup y) (v := v) hns₃ rfl ⟨Heap.get?_push_size _ rfl, ?_⟩)
    refine call_init_bound (old := t0) (k₃ _ _ (X₂ _ _ hC)) (k₃ _ _ hx₂) (Heap.get?_push_size _ rfl) (one_size v) (fun h₄ t1 k₄ hx₄ => ?_)
    have k14 : ∀ b o, b ≠ x → h₁.get? b = some o → h₄.get? b = some o := fun b o hb e => k₄ b o hb (k₃ _ _ (k₂ _ _ e))
    have X₄ : K.In h₄ := kept_but X₁ hnx k14
    have lx : s.heap.objs.size ≠ x := Nat.ne_of_gt xL
    have hns₄ : h₄.Ns s.heap.objs.size (fun y => ([("self", Value.ref x), ("value", v)] : List (Str × Value)).reverse.lookup y) := hns₃.at (fun o q => k₄ _ o lx q)
    show wpAt _ _ _ (execs [Stmt.Assign [(Expr.Name (Str.ofString "self") (ip 8 8 12)).Attribute (Str.ofString "value") (ip 8 8 18)] (Expr.Name (Str.ofString "value") (ip 8 21 26)) (ip 8 8 26)] _) _ _ _
    refine wpAt_of_wpAny (wpAny_execs_cons (plainObj_wpAny_Assign_Attribute ?_))
    refine ESX.ldL (v := v) hns₄ rfl (ESX.ldL (v := .ref x) hns₄ rfl ?_)
    refine set_plain X₄ (ox := excO C t1) (od := none) ⟨hx₄, rfl, rfl, trivial⟩ T.sa ?_
    refine exc_osa X₄ hx₄ hcl (show refsVE (.ref C :: bm) = true from hbm) rfl T.noN (fun h₅ tk₅ dx k₅ dn dne hx₅ hn₅ => ?_)
    have z : s.heap.objs.size ≤ dx := by
      refine Nat.le_trans (Nat.le_of_lt ?_) dn
      exact hns₄.lt
    refine wpAny_execs_nil (hq h₅ _ dx t1 ⟨fun b o hb e => k₅ b o hb (k14 b o hb (hk₁ b o e)), hx₅, z, dne, hn₅⟩)
end
end SupX
end PySem

set_option Elab.async false
set_option linter.all false
set_option maxRecDepth 100000
set_option maxHeartbeats 4000000
namespace PySem
namespace SupX
open PySem.W PySem.Calls PyProof.Rows PySem.HandSPX
section
variable {prog : Program} {w : World} {A : Around} {E : Value → Shared → Prop} {R : Result → Shared → Prop} {s : Shared} {K : Frag} {mg mb : Str → Option Value} {nmC : Str} {C fI : Addr}
theorem sup_made (T : SupTxt prog K mg nmC C fI) {v : Value} (X : K.In s.heap) (hlim : s.heap.NoLimit) (G : s.heap.Ns mainGlobals mg) (Bn : s.heap.Ns builtinsNs mb) (hb : mb "super" = some (.type "super")) (hroom : A.depth + 1 < recursionLimit)
    (hq : ∀ h' tk e d, OwnMade s.heap h' e C d v → R (.ok (.ret (.ref e))) { s with heap := h', toks := tk }) :
    codeAny (model prog w) A (.call (.ref C) ⟨[v], []⟩) R s := by
  obtain ⟨nm, q, N, bs, bm, sn, sub, ab, col, dd, k0, k1, k2, k3, k5, hC, hbm, hal⟩ := T.cls
  obtain ⟨hp, g, dr, tk, os⟩ := s
  have k : ∀ b o, hp.get? b = some o → ((hp.push (kdv_tup [v])).push (excO C hp.objs.size)).get? b = some o := fun b o e => Heap.get?_push_of_some _ (Heap.get?_push_of_some _ e)
  have hget : ((hp.push (kdv_tup [v])).push (excO C hp.objs.size)).get? (hp.objs.size + 1) = some (excO C hp.objs.size) := by heap_get
  have hnx : K.lookup (hp.objs.size + 1) = none := by
    cases e : K.lookup (hp.objs.size + 1) with
    | none => rfl
    | some o =>
      have z : hp.get? (hp.objs.size + 1) = some o := X _ _ e
      exact absurd (Nat.lt_of_succ_lt (Heap.lt_size z)) (Nat.lt_irrefl _)
  refine call_own F.excBase_ValueError (fun X => refsVE_contains X bm hbm) (X _ _ hC) (looks_findIn X T.iC) (fun self => bind_fn X self T.tC) (one_size v) ?_
  refine sup_init (s := ⟨(hp.push (kdv_tup [v])).push (excO C hp.objs.size), g, dr, tk, os⟩) T (X.keeps k) (hlim.keeps k) (G.keeps k) (Bn.keeps k) hb hget hnx ?_ fun h' tk' dx t1 ⟨k', hx, dn, dne, hns⟩ => ?_
  · show A.depth + 1 < recursionLimit
    exact hroom
  · have old : ∀ b o, hp.get? b = some o → h'.get? b = some o := fun b o e => k' b o (Nat.ne_of_lt (Nat.lt_succ_of_lt (Heap.lt_size e))) (k b o e)
    have z : hp.objs.size + 1 + 1 ≤ dx := by
      first
        | (simpa only [Heap.size_push] using dn)
        | exact dn
        | (have q := dn; rw [Heap.size_push, Heap.size_push] at q; exact q)
    exact ⟨rfl, hq h' tk' (hp.objs.size + 1) dx ⟨old, Nat.le_succ _, ⟨_, _, hx, rfl, rfl, rfl, rfl⟩, Nat.le_trans (Nat.le_trans (Nat.le_succ _) (Nat.le_succ _)) z, dne, hns⟩⟩
end
end SupX
end PySem
namespace L2
open PySem PySem.Spec PyProof.Rows
theorem relO_sup {v : V} {v' : Value} (r : RelV v v') (f : Str) : RelO (List.lookup f [(("value" : Str), v)]) (if f = "value" then some v' else none) := by
  by_cases hw : f = "value"
  · subst hw
    rw [if_pos rfl]
    have q : List.lookup ("value" : Str) [(("value" : Str), v)] = some v := by simp [List.lookup]
    rw [q]
    exact r
  · rw [if_neg hw]
    have qw : (f == ("value" : Str)) = false := by simpa using hw
    have q2 : List.lookup f [(("value" : Str), v)] = none := by simp [List.lookup, qw]
    rw [q2]
    trivial
section
variable {X : Cx} {nmC : Str} {C fI : Addr}
/-- BadProgram(e) -/
def tMkSup (C : Addr) (ta : TA) : St → Hp → XK → Prop := fun σ H Q => ta σ H fun vs H1 => ∃ v, vs = [v] ∧ ∀ d, H1 d = none → Q (.ref C) (some d) (upd H1 d (.xd [(("value" : Str), v)]))
theorem pmk_sup {a : Expr} {ta : TA} {p pos : Pos} {k : Nat} (T : PySem.SupX.SupTxt X.prog X.K X.mg "BadProgram" C fI) (hr : Room k X.A) (ha : PA X [a] ta) (hg : Gl X "BadProgram" := by rfl)
    (he : starEach (a :: []) X.env = (false, eval a X.env) :: starEach [] X.env := by rfl) (hpl : (backTo pos (starEach [] X.env)).any (·.1) = false := by rfl) :
    PMk X (.Call (.Name "BadProgram" p) [a] [] pos) (tMkSup C ta) := by
  intro pins s σ H Q I h
  refine wpAny_Call_Name_kw (ld_glob I hg T.gC ?_)
  refine PySem.W.callWith_K (h₀ := X.base) I.ok.mod.kin T.kC (thn (ha.run pos pins s σ H _ I h) fun us s1 hh => ?_) he hpl
  obtain ⟨vs, H1, I1, r1, v, ev, q1⟩ := hh
  subst ev
  refine ⟨I1.kIn, ?_⟩
  cases r1 with
  | cons rv rn =>
    rename_i v' us'
    cases rn
    show wpAny _ _ (call (.ref C) [v']) _ _ _
    have hlim := I1.nolimit
    obtain ⟨mb, hB0, hB1⟩ := I1.mod.blt
    have hbb := hB1 "super" (by decide)
    have hB := hB0.keeps I1.bk
    have hG := I1.mod.glob.keeps I1.bk
    obtain ⟨hp, g, dr, tk, os⟩ := s1
    refine wpAny_call (PySem.SupX.sup_made T I1.kIn hlim hG hB (hbb.trans rfl) (by have := hr.dp; omega) fun h' tk' e d M => ?_)
    show MkP X pins σ Q (.ref e) ⟨h', g, dr, tk', os⟩
    obtain ⟨oe, fv, hoe, hc, hd, hdat, h1⟩ := M.obj
    have hns := M.ns
    obtain ⟨G', g1, g2⟩ := restrict h' fun b => decide (b ≠ e)
    have gk : ∀ b, b ≠ e → G'.get? b = h'.get? b := fun b hb => g1 b (decide_eq_true hb)
    have ge : G'.get? e = none := g2 e (by simp)
    have old : ∀ b o, hp.get? b = some o → G'.get? b = some o := fun b o q => (gk b (Nat.ne_of_lt (Nat.lt_of_lt_of_le (Heap.lt_size q) M.new))).trans (M.keep b o q)
    have ob : ObjOk X.prog X.w (upd H1 d (.xd [(("value" : Str), v)])) G' d (.xd [(("value" : Str), v)]) :=
      ⟨_, hns.at (fun o q => (gk d M.dne).trans q), fun f => relO_sup rv f⟩
    have J : Inv X pins σ (upd H1 d (.xd [(("value" : Str), v)])) ⟨G', g, dr, tk', os⟩ := I1.laid (t' := tk') old M.dbig ob
    refine ⟨e, oe, fv, ⟨G', g, dr, tk', os⟩, _, .ref C, some d, rfl, J, fun b o q => ?_, ge, hoe, ⟨hc, hd⟩, hdat, h1, ?_, rfl, I1.bare, raises_own T.exC T.tyC, q1 d (I1.hok.fresh M.dbig)⟩
    · by_cases hb : b = e
      · have q' : G'.get? b = some o := q
        rw [hb, ge] at q'; cases q'
      · exact (gk b hb).symm.trans q
    · rw [upd_ne (Ne.symm M.dne)]
      exact I1.hok.fresh M.new
/-- raise BadProgram(e) -/
def tRaiseSup (C : Addr) (W : WX) (ta : TA) : TS := fun _ σ H => tMkSup C ta σ H fun cls d H' => W cls d σ H'
theorem ps_raiseSup {a : Expr} {ta : TA} {W : WX} {p pos pos2 : Pos} {k : Nat} (hc : X.calm = true) (T : PySem.SupX.SupTxt X.prog X.K X.mg "BadProgram" C fI) (hr : Room k X.A) (tk : Takes X W) (ha : PA X [a] ta) (hg : Gl X "BadProgram" := by rfl)
    (he : starEach (a :: []) X.env = (false, eval a X.env) :: starEach [] X.env := by rfl) (hpl : (backTo pos (starEach [] X.env)).any (·.1) = false := by rfl) :
    PS X (.Raise (some (.Call (.Name "BadProgram" p) [a] [] pos)) none pos2) (tRaiseSup C W ta) := ps_raise hc tk (pmk_sup T hr ha hg he hpl)
/-- e.value, e the exception that the suite holds (at a; its class cls, its dict d) -/
def tValSup (C : Addr) (a : Addr) (cls : Value) (d : Option Addr) (te : TE) : TE := fun σ H Q => te σ H fun x H1 => x = .ref a ∧ cls = .ref C ∧ ∃ (dd : Addr) (v : V), d = some dd ∧ H1 dd = some (.xd [(("value" : Str), v)]) ∧ Q v H1
theorem pe_valSup {a : Addr} {oe : Obj} {cls : Value} {d : Option Addr} {pn : List (Addr × Obj)} {e : Expr} {te : TE} {pos : Pos} (T : PySem.SupX.SupTxt X.prog X.K X.mg "BadProgram" C fI) (hz : Zc cls d oe) (hf : ∃ vs, oe.data = .fields vs) (he : PE (X.suite a ((a, oe) :: pn)) e te)
    (hb : attributeBase e "value" X.env (eval e X.env) = eval e X.env := by rfl) :
    PE (X.suite a ((a, oe) :: pn)) (.Attribute e "value" pos) (tValSup C a cls d te) := by
  refine ⟨fun pins s σ H Q I h => ?_⟩
  refine attr_of hb (thn (he.run pins s σ H _ I h) fun u s1 hh => ?_)
  obtain ⟨x, H1, I1, rx, ex, ec, dd, v, ed, ea, q⟩ := hh
  subst ex
  obtain rfl : u = Value.ref a := rx
  subst ec
  subst ed
  obtain ⟨ha, _⟩ := I1.pin (a, oe) (List.mem_append_left _ List.mem_cons_self)
  obtain ⟨vs, hd⟩ := hf
  have hx : ObjOk X.prog X.w H1 s1.heap dd (.xd [(("value" : Str), v)]) := I1.hok dd _ ea
  obtain ⟨mA, hns, hr⟩ := hx
  obtain ⟨od, ho, hl⟩ := lookIn_ns hns
  have l : List.lookup ("value" : Str) [(("value" : Str), v)] = some v := by simp [List.lookup]
  obtain ⟨u, hu, ru⟩ := RelO.some_of (v := v) (o := mA "value") (by rw [← l]; exact hr "value")
  have J : PySem.W.InstAt s1.heap a oe C (some od) := ⟨ha, hz.1, by unfold PySem.W.notCls; rw [hd] <;> rfl, by rw [hz.2]; exact ho⟩
  exact HandSPX.exc_get I1.kIn J T.ga T.gg T.exC (PySem.W.findObj_own T.hdC T.noN rfl (by rw [hl, hu])) (handed_of ru) ⟨v, H1, I1.tok _, ru, q⟩
end
end L2

set_option Elab.async false
set_option linter.all false
set_option maxRecDepth 100000
set_option maxHeartbeats 4000000
/-! changes.py: need_program, weight. -/
namespace K46
open PySem PySem.Spec PyProof.Rows L2
abbrev sNeed : Stmt := topS 18
abbrev sWeight : Stmt := topS 19
/-- a BadProgram of v leaves -/
def Bad (C : Addr) (H : Hp) (E : XK) (v : V) : Prop := ∀ H' d, Same H H' → H' d = none → E (.ref C) (some d) (upd H' d (.xd [(("value" : Str), v)]))
section
variable {P : Program} {w : World} {K : PySem.W.Frag} {mg : Str → Option Value} {base : Heap} {C fI : Addr}
def spNeed (C : Addr) : Sp := fun vs H Q E => ∃ (d : D) (v : V), vs = [v] ∧ At H d v ∧ sz d ≤ 1000 ∧ (isProg d = true → ∀ H', Same H H' → Q .non H') ∧ (isProg d = false → Bad C H E v)
def spWeight (C : Addr) : Sp := fun vs H Q E => ∃ (d : D) (v : V), vs = [v] ∧ At H d v ∧ sz d ≤ 1000 ∧ (isProg d = false → Bad C H E v) ∧
  (isProg d = true → ∃ p, d = encP p ∧ okP p = true ∧ nP p + tP p ≤ 300 ∧ ∀ H' t, Same H H' → H t = none → H' t = some (.tup (wtD (wt p))) → Q (.ref t) H')
theorem scND : FnScope ["program"] ["program"] (defScope sNeed) := ⟨rfl, rfl, rfl, by decide +kernel, rfl, by decide +kernel, by decide +kernel⟩
theorem scWE : FnScope ["program"] ["program"] (defScope sWeight) := ⟨rfl, rfl, rfl, by decide +kernel, rfl, by decide +kernel, by decide +kernel⟩
theorem ok_need {f fP : Addr} {fd fdP : FuncData} (F : Fun K "need_program" "need_program" sNeed f fd) (T : PySem.SupX.SupTxt P K mg "BadProgram" C fI)
    (GP : FnOk P w K mg base CX0 4 fP fdP ["value"] spIsProg) (kP : PySem.W.keepIn K (.ref fP) = true) (gP : mg "is_program" = some (.ref fP)) (bP : Binds K fdP ["value"] []) : FnOk P w K mg base (L2.CX P w) 5 f fd ["program"] (spNeed C) := by
  refine F.okX scND (fun vs H Q E h => ?_) (fun cdv A outer s H vs Q E hr h => ?_)
  · obtain ⟨d, v, rfl, _⟩ := h
    rfl
  · obtain ⟨d, v, rfl, hd, hz, qt, qf⟩ := h
    refine ⟨_, pss_cons (ps_if (pt_not (pt_val (pe_call GP hr (by rfl) gP kP bP .nil pass0 (pa_cons (pv 0) pa_nil))))
      (pss_one (ps_raiseSup rfl T (hr.mono (show 1 ≤ 4 by decide)) (takes_of (E := E) rfl rfl rfl rfl) (by exact (pa_cons (pv 0) pa_nil)))) pss_nil) pss_nil, ?_⟩
    refine ⟨_, rfl, d, v, rfl, hd, hz, fun H1 s1 => ?_⟩
    cases e : isProg d with
    | true =>
      refine ⟨_, rfl, iteF ?_⟩
      exact qt e H1 s1
    | false =>
      refine ⟨_, rfl, iteT ?_⟩
      exact ⟨_, rfl, v, rfl, fun dd nd => qf e H1 dd s1 nd⟩
theorem ok_weight {f fN fW : Addr} {fd fdN fdW : FuncData} (F : Fun K "weight" "weight" sWeight f fd)
    (GN : FnOk P w K mg base (L2.CX P w) 5 fN fdN ["program"] (spNeed C)) (kN : PySem.W.keepIn K (.ref fN) = true) (gN : mg "need_program" = some (.ref fN)) (bN : Binds K fdN ["program"] [])
    (GW : FnOk P w K mg base CX0 4 fW fdW ["program"] spWeightOf) (kW : PySem.W.keepIn K (.ref fW) = true) (gW : mg "weight_of" = some (.ref fW)) (bW : Binds K fdW ["program"] []) : FnOk P w K mg base (L2.CX P w) 6 f fd ["program"] (spWeight C) := by
  refine F.okX scWE (fun vs H Q E h => ?_) (fun cdv A outer s H vs Q E hr h => ?_)
  · obtain ⟨d, v, rfl, _⟩ := h
    rfl
  · obtain ⟨d, v, rfl, hd, hz, qf, qt⟩ := h
    refine ⟨_, pss_cons (ps_expr (pe_callS GN hr (by rfl) gN kN bN (fun σ => passAt (takes_of (E := E) rfl rfl rfl rfl) σ) (by exact (pa_cons (pv 0) pa_nil))))
      (pss_one (ps_ret (pe_call GW (hr.mono (show 4 ≤ 5 by decide)) (by rfl) gW kW bW .nil pass0 (pa_cons (pv 0) pa_nil)))), ?_⟩
    refine ⟨_, rfl, d, v, rfl, hd, hz, fun e H1 s1 => ?_, fun e => ?_⟩
    · obtain ⟨p, rfl, hok, hn, q⟩ := qt e
      exact ⟨_, rfl, p, v, rfl, hd.tm (TM.same s1), hok, hn, fun H2 t s2 nt ht => q H2 t (s1.trans s2) (s1.free nt) ht⟩
    · exact fun H' d s nd => qf e H' d s nd
end
end K46

set_option Elab.async false
set_option linter.all false
set_option maxRecDepth 100000
set_option maxHeartbeats 4000000
/-! The mathematics of the changes: they are fine; the lighter ones, each once. -/
namespace K46
open PySem PySem.Spec PyProof.Rows L2
def Fine (p r : Pr) : Prop := (okP p = true → okP r = true) ∧ nP r + tP r ≤ nP p + tP p ∧ (encP r).depth ≤ (encP p).depth
theorem dT_pos (t : Te) : 1 ≤ (encT t).depth := by cases t <;> simp [encT, NestedKey.depth]
theorem dP_pos (p : Pr) : 1 ≤ (encP p).depth := by cases p <;> simp [encP, NestedKey.depth]
theorem here_fine (p r : Pr) (h : r ∈ here p) : Fine p r := by
  have := dP_pos p
  cases p <;> simp [here, kidsP, tplace, withT] at h <;>
    (first
      | (rcases h with rfl | rfl | rfl | rfl | rfl | rfl)
      | (rcases h with rfl | rfl | rfl | rfl | rfl)
      | (rcases h with rfl | rfl | rfl | rfl)
      | (rcases h with rfl | rfl | rfl)
      | (rcases h with rfl | rfl)) <;>
    (refine ⟨?_, ?_, ?_⟩ <;> (first | (simp [okP, okT] <;> intros <;> simp_all; done) | skip) <;> simp [nP, tP, szT, encP, encT, NestedKey.depth, NestedKey.depthAll] at * <;> (try have q1 := szT_pos ‹Te›) <;> (try have q2 := dT_pos ‹Te›) <;> omega)
theorem withP_fine {p k r : Pr} {i : Nat} (hk : (kidsP p)[i]? = some k) (f : Fine k r) : Fine p (withP p i r) := by
  obtain ⟨f1, f2, f3⟩ := f
  cases p with
  | skip => simp [kidsP] at hk
  | stop => simp [kidsP] at hk
  | deed s => simp [kidsP] at hk
  | assume t => simp [kidsP] at hk
  | thn a b =>
    match i, hk with
    | 0, hk => cases hk; exact ⟨by simp only [okP, withP, Bool.and_eq_true]; exact fun h => ⟨f1 h.1, h.2⟩, by simp only [nP, tP, withP]; omega, by simp only [encP, withP, NestedKey.depth, NestedKey.depthAll]; omega⟩
    | 1, hk => cases hk; exact ⟨by simp only [okP, withP, Bool.and_eq_true]; exact fun h => ⟨h.1, f1 h.2⟩, by simp only [nP, tP, withP]; omega, by simp only [encP, withP, NestedKey.depth, NestedKey.depthAll]; omega⟩
  | cho a b =>
    match i, hk with
    | 0, hk => cases hk; exact ⟨by simp only [okP, withP, Bool.and_eq_true]; exact fun h => ⟨f1 h.1, h.2⟩, by simp only [nP, tP, withP]; omega, by simp only [encP, withP, NestedKey.depth, NestedKey.depthAll]; omega⟩
    | 1, hk => cases hk; exact ⟨by simp only [okP, withP, Bool.and_eq_true]; exact fun h => ⟨h.1, f1 h.2⟩, by simp only [nP, tP, withP]; omega, by simp only [encP, withP, NestedKey.depth, NestedKey.depthAll]; omega⟩
  | loop a =>
    match i, hk with
    | 0, hk => cases hk; exact ⟨by simp only [okP, withP]; exact f1, by simp only [nP, tP, withP]; omega, by simp only [encP, withP, NestedKey.depth, NestedKey.depthAll]; omega⟩
  | ite t a b =>
    match i, hk with
    | 0, hk => cases hk; exact ⟨by simp only [okP, withP, Bool.and_eq_true]; exact fun h => ⟨⟨h.1.1, f1 h.1.2⟩, h.2⟩, by simp only [nP, tP, withP]; omega, by simp only [encP, withP, NestedKey.depth, NestedKey.depthAll]; omega⟩
    | 1, hk => cases hk; exact ⟨by simp only [okP, withP, Bool.and_eq_true]; exact fun h => ⟨⟨h.1.1, h.1.2⟩, f1 h.2⟩, by simp only [nP, tP, withP]; omega, by simp only [encP, withP, NestedKey.depth, NestedKey.depthAll]; omega⟩
  | whl t a =>
    match i, hk with
    | 0, hk => cases hk; exact ⟨by simp only [okP, withP, Bool.and_eq_true]; exact fun h => ⟨h.1, f1 h.2⟩, by simp only [nP, tP, withP]; omega, by simp only [encP, withP, NestedKey.depth, NestedKey.depthAll]; omega⟩
  | rep a t =>
    match i, hk with
    | 0, hk => cases hk; exact ⟨by simp only [okP, withP, Bool.and_eq_true]; exact fun h => ⟨f1 h.1, h.2⟩, by simp only [nP, tP, withP]; omega, by simp only [encP, withP, NestedKey.depth, NestedKey.depthAll]; omega⟩
theorem map_fine {p k q : Pr} {i : Nat} (hk : (kidsP p)[i]? = some k) (ih : ∀ r ∈ allCh k, Fine k r) (h : q ∈ (allCh k).map (withP p i)) : Fine p q := by
  obtain ⟨r, hr, rfl⟩ := List.mem_map.mp h
  exact withP_fine hk (ih r hr)
theorem allCh_fine : ∀ (p r : Pr), r ∈ allCh p → Fine p r
  | .skip, r, h => here_fine _ r h
  | .stop, r, h => here_fine _ r h
  | .deed s, r, h => here_fine _ r h
  | .assume t, r, h => here_fine _ r h
  | .thn a b, r, h => by
    rcases List.mem_append.mp h with h | h
    · exact here_fine _ r h
    · rcases List.mem_append.mp h with h | h
      · exact map_fine (k := a) (i := 0) rfl (allCh_fine a) h
      · exact map_fine (k := b) (i := 1) rfl (allCh_fine b) h
  | .cho a b, r, h => by
    rcases List.mem_append.mp h with h | h
    · exact here_fine _ r h
    · rcases List.mem_append.mp h with h | h
      · exact map_fine (k := a) (i := 0) rfl (allCh_fine a) h
      · exact map_fine (k := b) (i := 1) rfl (allCh_fine b) h
  | .loop a, r, h => by
    rcases List.mem_append.mp h with h | h
    · exact here_fine _ r h
    · exact map_fine (k := a) (i := 0) rfl (allCh_fine a) h
  | .ite t a b, r, h => by
    rcases List.mem_append.mp h with h | h
    · exact here_fine _ r h
    · rcases List.mem_append.mp h with h | h
      · exact map_fine (k := a) (i := 0) rfl (allCh_fine a) h
      · exact map_fine (k := b) (i := 1) rfl (allCh_fine b) h
  | .whl t a, r, h => by
    rcases List.mem_append.mp h with h | h
    · exact here_fine _ r h
    · exact map_fine (k := a) (i := 0) rfl (allCh_fine a) h
  | .rep a t, r, h => by
    rcases List.mem_append.mp h with h | h
    · exact here_fine _ r h
    · exact map_fine (k := a) (i := 0) rfl (allCh_fine a) h
theorem encT_inj : ∀ a b : Te, encT a = encT b → a = b
  | .tr, b, h => by cases b <;> simp [encT] at h <;> first | exact absurd h (by decide) | exact absurd h.1 (by decide) | rfl | (rw [h]; done) | (rw [encT_inj _ _ h]; done) | (rw [encT_inj _ _ h.1, encT_inj _ _ h.2]; done)
  | .fa, b, h => by cases b <;> simp [encT] at h <;> first | exact absurd h (by decide) | exact absurd h.1 (by decide) | rfl | (rw [h]; done) | (rw [encT_inj _ _ h]; done) | (rw [encT_inj _ _ h.1, encT_inj _ _ h.2]; done)
  | .nm s, b, h => by cases b <;> simp [encT] at h <;> first | exact absurd h (by decide) | exact absurd h.1 (by decide) | rfl | (rw [h]; done) | (rw [encT_inj _ _ h]; done) | (rw [encT_inj _ _ h.1, encT_inj _ _ h.2]; done)
  | .no t, b, h => by cases b <;> simp [encT] at h <;> first | exact absurd h (by decide) | exact absurd h.1 (by decide) | rfl | (rw [h]; done) | (rw [encT_inj _ _ h]; done) | (rw [encT_inj _ _ h.1, encT_inj _ _ h.2]; done)
  | .an t u, b, h => by cases b <;> simp [encT] at h <;> first | exact absurd h (by decide) | exact absurd h.1 (by decide) | rfl | (rw [h]; done) | (rw [encT_inj _ _ h]; done) | (rw [encT_inj _ _ h.1, encT_inj _ _ h.2]; done)
  | .og t u, b, h => by cases b <;> simp [encT] at h <;> first | exact absurd h (by decide) | exact absurd h.1 (by decide) | rfl | (rw [h]; done) | (rw [encT_inj _ _ h]; done) | (rw [encT_inj _ _ h.1, encT_inj _ _ h.2]; done)
theorem encP_inj : ∀ a b : Pr, encP a = encP b → a = b
  | .skip, b, h => by cases b <;> simp [encP] at h <;> first | exact absurd h (by decide) | exact absurd h.1 (by decide) | rfl | (rw [h]; done) | (rw [encT_inj _ _ h]; done) | (rw [encP_inj _ _ h]; done) | (rw [encP_inj _ _ h.1, encP_inj _ _ h.2]; done) | (rw [encT_inj _ _ h.1, encP_inj _ _ h.2]; done) | (rw [encP_inj _ _ h.1, encT_inj _ _ h.2]; done) | (rw [encT_inj _ _ h.1, encP_inj _ _ h.2.1, encP_inj _ _ h.2.2]; done)
  | .stop, b, h => by cases b <;> simp [encP] at h <;> first | exact absurd h (by decide) | exact absurd h.1 (by decide) | rfl | (rw [h]; done) | (rw [encT_inj _ _ h]; done) | (rw [encP_inj _ _ h]; done) | (rw [encP_inj _ _ h.1, encP_inj _ _ h.2]; done) | (rw [encT_inj _ _ h.1, encP_inj _ _ h.2]; done) | (rw [encP_inj _ _ h.1, encT_inj _ _ h.2]; done) | (rw [encT_inj _ _ h.1, encP_inj _ _ h.2.1, encP_inj _ _ h.2.2]; done)
  | .deed s, b, h => by cases b <;> simp [encP] at h <;> first | exact absurd h (by decide) | exact absurd h.1 (by decide) | rfl | (rw [h]; done) | (rw [encT_inj _ _ h]; done) | (rw [encP_inj _ _ h]; done) | (rw [encP_inj _ _ h.1, encP_inj _ _ h.2]; done) | (rw [encT_inj _ _ h.1, encP_inj _ _ h.2]; done) | (rw [encP_inj _ _ h.1, encT_inj _ _ h.2]; done) | (rw [encT_inj _ _ h.1, encP_inj _ _ h.2.1, encP_inj _ _ h.2.2]; done)
  | .assume t, b, h => by cases b <;> simp [encP] at h <;> first | exact absurd h (by decide) | exact absurd h.1 (by decide) | rfl | (rw [h]; done) | (rw [encT_inj _ _ h]; done) | (rw [encP_inj _ _ h]; done) | (rw [encP_inj _ _ h.1, encP_inj _ _ h.2]; done) | (rw [encT_inj _ _ h.1, encP_inj _ _ h.2]; done) | (rw [encP_inj _ _ h.1, encT_inj _ _ h.2]; done) | (rw [encT_inj _ _ h.1, encP_inj _ _ h.2.1, encP_inj _ _ h.2.2]; done)
  | .thn t u, b, h => by cases b <;> simp [encP] at h <;> first | exact absurd h (by decide) | exact absurd h.1 (by decide) | rfl | (rw [h]; done) | (rw [encT_inj _ _ h]; done) | (rw [encP_inj _ _ h]; done) | (rw [encP_inj _ _ h.1, encP_inj _ _ h.2]; done) | (rw [encT_inj _ _ h.1, encP_inj _ _ h.2]; done) | (rw [encP_inj _ _ h.1, encT_inj _ _ h.2]; done) | (rw [encT_inj _ _ h.1, encP_inj _ _ h.2.1, encP_inj _ _ h.2.2]; done)
  | .cho t u, b, h => by cases b <;> simp [encP] at h <;> first | exact absurd h (by decide) | exact absurd h.1 (by decide) | rfl | (rw [h]; done) | (rw [encT_inj _ _ h]; done) | (rw [encP_inj _ _ h]; done) | (rw [encP_inj _ _ h.1, encP_inj _ _ h.2]; done) | (rw [encT_inj _ _ h.1, encP_inj _ _ h.2]; done) | (rw [encP_inj _ _ h.1, encT_inj _ _ h.2]; done) | (rw [encT_inj _ _ h.1, encP_inj _ _ h.2.1, encP_inj _ _ h.2.2]; done)
  | .loop t, b, h => by cases b <;> simp [encP] at h <;> first | exact absurd h (by decide) | exact absurd h.1 (by decide) | rfl | (rw [h]; done) | (rw [encT_inj _ _ h]; done) | (rw [encP_inj _ _ h]; done) | (rw [encP_inj _ _ h.1, encP_inj _ _ h.2]; done) | (rw [encT_inj _ _ h.1, encP_inj _ _ h.2]; done) | (rw [encP_inj _ _ h.1, encT_inj _ _ h.2]; done) | (rw [encT_inj _ _ h.1, encP_inj _ _ h.2.1, encP_inj _ _ h.2.2]; done)
  | .ite t u v, b, h => by cases b <;> simp [encP] at h <;> first | exact absurd h (by decide) | exact absurd h.1 (by decide) | rfl | (rw [h]; done) | (rw [encT_inj _ _ h]; done) | (rw [encP_inj _ _ h]; done) | (rw [encP_inj _ _ h.1, encP_inj _ _ h.2]; done) | (rw [encT_inj _ _ h.1, encP_inj _ _ h.2]; done) | (rw [encP_inj _ _ h.1, encT_inj _ _ h.2]; done) | (rw [encT_inj _ _ h.1, encP_inj _ _ h.2.1, encP_inj _ _ h.2.2]; done)
  | .whl t u, b, h => by cases b <;> simp [encP] at h <;> first | exact absurd h (by decide) | exact absurd h.1 (by decide) | rfl | (rw [h]; done) | (rw [encT_inj _ _ h]; done) | (rw [encP_inj _ _ h]; done) | (rw [encP_inj _ _ h.1, encP_inj _ _ h.2]; done) | (rw [encT_inj _ _ h.1, encP_inj _ _ h.2]; done) | (rw [encP_inj _ _ h.1, encT_inj _ _ h.2]; done) | (rw [encT_inj _ _ h.1, encP_inj _ _ h.2.1, encP_inj _ _ h.2.2]; done)
  | .rep t u, b, h => by cases b <;> simp [encP] at h <;> first | exact absurd h (by decide) | exact absurd h.1 (by decide) | rfl | (rw [h]; done) | (rw [encT_inj _ _ h]; done) | (rw [encP_inj _ _ h]; done) | (rw [encP_inj _ _ h.1, encP_inj _ _ h.2]; done) | (rw [encT_inj _ _ h.1, encP_inj _ _ h.2]; done) | (rw [encP_inj _ _ h.1, encT_inj _ _ h.2]; done) | (rw [encT_inj _ _ h.1, encP_inj _ _ h.2.1, encP_inj _ _ h.2.2]; done)
/-- lighter -/
def ltW (a b : Nat × Nat × Nat) : Bool := HT.lexLt [(a.1 : Int), (a.2.1 : Int), (a.2.2 : Int)] [(b.1 : Int), (b.2.1 : Int), (b.2.2 : Int)]
def putP (acc : List Pr) (r : Pr) : List Pr := if r ∈ acc then acc else acc ++ [r]
def stepL (p : Pr) (acc : List Pr) (r : Pr) : List Pr := if ltW (wt r) (wt p) = true then putP acc r else acc
def lighterP (p : Pr) (l : List Pr) : List Pr := l.foldl (stepL p) []
theorem lighterP_more {p : Pr} {l : List Pr} {i : Nat} {r : Pr} (h : l[i]? = some r) : lighterP p (l.take (i + 1)) = stepL p (lighterP p (l.take i)) r := by
  unfold lighterP
  rw [take_more h, List.foldl_append]
  rfl
theorem stepL_len (p : Pr) (acc : List Pr) (r : Pr) : (stepL p acc r).length ≤ acc.length + 1 := by
  unfold stepL putP
  split
  · split
    · omega
    · simp
  · omega
theorem lighterP_len (p : Pr) (l : List Pr) : ∀ i, i ≤ l.length → (lighterP p (l.take i)).length ≤ i
  | 0, _ => by simp [lighterP]
  | i + 1, h => by
    have ih := lighterP_len p l i (by omega)
    have e : l[i]? = some l[i] := List.getElem?_eq_getElem (by omega)
    rw [lighterP_more e]
    have := stepL_len p (lighterP p (l.take i)) l[i]
    omega
theorem mem_enc {r : Pr} {l : List Pr} : encP r ∈ l.map encP ↔ r ∈ l := by
  constructor
  · intro h
    obtain ⟨q, hq, e⟩ := List.mem_map.mp h
    rw [← encP_inj _ _ e]
    exact hq
  · exact fun h => List.mem_map.mpr ⟨r, h, rfl⟩
end K46

set_option Elab.async false
set_option linter.all false
set_option maxRecDepth 100000
set_option maxHeartbeats 4000000
/-! changes.py: lighter_of, changes. -/
namespace K46
open PySem PySem.Spec PyProof.Rows L2
abbrev sLighter : Stmt := topS 25
abbrev sChanges : Stmt := topS 26
/-- a new tuple that codes ps -/
def NewT (H : Hp) (Q : VK) (ps : List Pr) : Prop := ∀ H' t us, Same H H' → H t = none → H' t = some (.tup us) → AtAll H' (ps.map encP) us → Q (.ref t) H'
/-- the lighter changes -/
def lightCh (p : Pr) : List Pr := lighterP p (allCh p)
/-- small enough -/
structure Sml (p : Pr) : Prop where
  ok : okP p = true
  hg : hgt p ≤ 6
  sz : nP p + tP p ≤ 60
  dep : (encP p).depth ≤ 8
theorem putN_fst (xs : List (D × Addr)) (acc : List Pr) (r : Pr) (a : Addr) (h : xs.map (·.1) = acc.map encP) : (putN xs (encP r) a).map (·.1) = (putP acc r).map encP := by
  unfold putN putP
  by_cases c : r ∈ acc
  · rw [if_pos c, if_pos (by rw [h]; exact mem_enc.mpr c)]
    exact h
  · rw [if_neg c, if_neg (fun z => c (by rw [h] at z; exact mem_enc.mp z))]
    rw [List.map_append, List.map_append, h]
    rfl
theorem NdK.put {H : Hp} {xs : List (D × Addr)} {k : D} {a : Addr} (n : NdK H xs) (hk : At H k (.ref a)) (dk : k.depth ≤ 8) : NdK H (putN xs k a) := by
  unfold putN
  split
  · exact n
  · rename_i c
    refine ⟨fun z hz => ?_, ?_⟩
    · rcases List.mem_append.mp hz with hz | hz
      · exact n.at_ z hz
      · simp at hz
        subst hz
        exact ⟨hk, dk⟩
    · rw [List.map_append, List.nodup_append]
      refine ⟨n.nd, by simp, fun x hx y hy => ?_⟩
      simp at hy
      subst hy
      exact fun z => c (z ▸ hx)
theorem NdK.tm {H H' : Hp} {xs : List (D × Addr)} (n : NdK H xs) (t : TM H H') : NdK H' xs := ⟨fun z hz => ⟨(n.at_ z hz).1.tm t, (n.at_ z hz).2⟩, n.nd⟩
theorem ndk_all {H : Hp} {xs : List (D × Addr)} (n : NdK H xs) : AtAll H (xs.map (·.1)) (xs.map fun x => V.ref x.2) := by
  have h := n.at_
  clear n
  induction xs with
  | nil => exact .nil
  | cons x r ih => exact .cons (h x List.mem_cons_self).1 (ih fun z hz => h z (List.mem_cons_of_mem _ hz))
theorem encP_ref {H : Hp} {p : Pr} {v : V} (a : At H (encP p) v) : ∃ b, v = .ref b := by
  obtain ⟨h, r, e, _⟩ := encP_head p
  rw [e] at a
  obtain ⟨b, _, e2, _⟩ := a.head
  exact ⟨b, e2⟩
section
variable {P : Program} {w : World} {K : PySem.W.Frag} {mg : Str → Option Value} {base : Heap} {C : Addr}
def spLighter : Sp := fun vs H Q _ => ∃ (p : Pr) (v : V), vs = [v] ∧ At H (encP p) v ∧ Sml p ∧ NewT H Q (lightCh p)
theorem scLi : FnScope ["program", "found", "heavy", "other"] ["program"] (defScope sLighter) := ⟨rfl, rfl, rfl, by decide +kernel, rfl, by decide +kernel, by decide +kernel⟩
theorem ok_lighter {f fA fW : Addr} {fd fdA fdW : FuncData} (F : Fun K "lighter_of" "lighter_of" sLighter f fd) (B : Blt mg) (tB : mg "tuple" = none)
    (GA : FnOk P w K mg base CX0 9 fA fdA ["program"] (spAllCh 6)) (kA : PySem.W.keepIn K (.ref fA) = true) (gA : mg "all_changes" = some (.ref fA)) (bA : Binds K fdA ["program"] [])
    (GW : FnOk P w K mg base CX0 4 fW fdW ["program"] spWeightOf) (kW : PySem.W.keepIn K (.ref fW) = true) (gW : mg "weight_of" = some (.ref fW)) (bW : Binds K fdW ["program"] []) : FnOk P w K mg base CX0 10 f fd ["program"] spLighter := by
  refine F.ok scLi (fun vs H Q E h => ?_) (fun cdv A outer s H vs Q E hr h => ?_)
  · obtain ⟨p, v, rfl, _⟩ := h
    rfl
  · obtain ⟨p, v, rfl, hd, hp, q⟩ := h
    have hr4 := hr.mono (show 4 ≤ 9 by decide)
    have hun : (A.deeper (envOfC "lighter_of" (defScope sLighter) s.heap.objs.size f cdv)).units + 16 < cLine := by
      have := hr.un
      omega
    refine ⟨_, pss_cons (ps_par (i := 1) (j := 2) rfl scLi.nd rfl rfl (by decide) rfl rfl (pa_cons pe_dnewN (pa_cons (pe_call GW hr4 (by rfl) gW kW bW .nil pass0 (pa_cons (pv 0) pa_nil)) pa_nil)) (by rfl))
      (pss_cons (ps_for PassesOwn.never rfl (pi_list (pe_call GA hr (by rfl) gA kA bA .nil pass0 (pa_cons (pv 0) pa_nil))) (pg_name (i := 3) scLi.nd rfl (.inl rfl))
        (pss_one (ps_if (pt_cmpR (op_ltT hr.units0) (pe_call GW hr4 (by rfl) gW kW bW .nil pass0 (pa_cons (pv 3) pa_nil)) (pv 2) (nomark _)) (pss_one (ps_nput hun (pv 1) (pv 3) pe_bl)) pss_nil)))
      (pss_one (ps_ret (pe_callTy (call_tuple_nd rfl) (by rfl) tB (by rfl) (pa_cons (pv 1) pa_nil))))), ?_⟩
    have sl : ∀ n : Nat, n ≤ 1000 → n ≤ sizeLine := fun n h => Nat.le_of_lt (small1000 h)
    -- found, heavy = {}, weight_of(program)
    refine fun d nd => ⟨_, rfl, p, v, rfl, hd.tm (TM.new nd), hp.ok, Nat.le_trans hp.sz (by decide), fun H1 hv s1 nhv ehv => ?_⟩
    refine ⟨_, _, rfl, ?_⟩
    have s01 : Same H H1 := (same_new nd).trans s1
    have e1d : H1 d = some (ndO P w d []) := s1 _ _ upd_same
    -- all_changes(program)
    refine ⟨_, rfl, p, v, rfl, hd.tm (TM.same s01), hp.ok, hp.hg, hp.sz, fun H2 l us s2 nl el au => ?_⟩
    have tot := allCh_len p
    have lus := au.length
    rw [List.length_map] at lus
    have hne : d ≠ l := fun z => by
      rw [z] at e1d
      rw [nl] at e1d
      cases e1d
    have sz60 := hp.sz
    refine ⟨l, rfl, ⟨_, SqL.of el⟩, ?_⟩
    refine for_list (K := K) (a := l) (xs := us) (fun i σ H' => ∃ (xs : List (D × Addr)) (x3 : Option V), σ = [some v, some (.ref d), some (.ref hv), x3] ∧ Same H H' ∧ TM H2 H' ∧ H' l = some (.lst us) ∧ H' d = some (ndO P w d xs) ∧ NdK H' xs ∧
        xs.map (·.1) = (lighterP p ((allCh p).take i)).map encP)
      ⟨[], none, rfl, s01.trans s2, TM.refl _, el, s2 _ _ e1d, ⟨fun z hz => by simp at hz, by simp⟩, rfl⟩ (fun i σ H' _ ⟨_, _, _, _, _, h, _⟩ => SqL.of h) ?_ ?_
    · rintro i x σ H3 hx ⟨xs, x3, rfl, s3, t3, el3, ed3, nk, ex⟩
      obtain ⟨r, hr5, ar⟩ := getE au hx
      have ar3 := ar.tm t3
      have fine := allCh_fine p r (List.mem_of_getElem? hr5)
      have hi : i < (allCh p).length := by
        have := List.getElem?_eq_some_iff.mp hr5
        exact this.1
      refine ⟨_, rfl, r, x, rfl, ar3, fine.1 hp.ok, Nat.le_trans (Nat.le_trans fine.2.1 hp.sz) (by decide), fun H4 t4 s4 nt4 et4 => ?_⟩
      have ehv4 : H4 hv = some (.tup (wtD (wt p))) := s4 _ _ (t3 _ _ (s2 _ _ ehv))
      refine ⟨_, rfl, t4, hv, [((wt r).1 : Int), ((wt r).2.1 : Int), ((wt r).2.2 : Int)], [((wt p).1 : Int), ((wt p).2.1 : Int), ((wt p).2.2 : Int)], rfl, rfl, SqT.of et4, SqT.of ehv4, _, rfl, ?_⟩
      have more := lighterP_more (p := p) hr5
      have llen := lighterP_len p (allCh p) i (by omega)
      have lxs := congrArg List.length ex
      rw [List.length_map, List.length_map] at lxs
      obtain ⟨a, rfl⟩ := encP_ref ar
      refine ite_bl (fun c => ?_) (fun c => ?_)
      · have c' : ltW (wt r) (wt p) = true := c
        refine ⟨_, rfl, _, rfl, d, xs, encP r, a, rfl, rfl, rfl, s4 _ _ ed3, nk.tm (TM.same s4), ar3.tm (TM.same s4), Nat.le_trans fine.2.2 hp.dep, small1000 (by omega), ?_⟩
        have tmu : TM H4 (upd H4 d (ndO P w d (putN xs (encP r) a))) := TM.mut (s4 _ _ ed3) (fun xs z => nomatch z)
        refine ⟨putN xs (encP r) a, _, rfl, same_mut (s3.trans s4) nd, t3.trans ((TM.same s4).trans tmu), ?_, upd_same, (nk.tm ((TM.same s4).trans tmu)).put (ar3.tm ((TM.same s4).trans tmu)) (Nat.le_trans fine.2.2 hp.dep), ?_⟩
        · rw [upd_ne hne.symm]
          exact s4 _ _ el3
        · rw [putN_fst xs _ r a ex, more]
          unfold stepL
          rw [if_pos c']
      · have c' : ltW (wt r) (wt p) = false := c
        refine ⟨xs, _, rfl, s3.trans s4, t3.trans (TM.same s4), s4 _ _ el3, s4 _ _ ed3, nk.tm (TM.same s4), ?_⟩
        rw [ex, more]
        unfold stepL
        rw [c', if_neg Bool.false_ne_true]
    · rintro σ H3 ⟨xs, x3, rfl, s3, t3, el3, ed3, nk, ex⟩
      have etk : (allCh p).take us.length = allCh p := List.take_of_length_le (by omega)
      rw [etk] at ex
      refine ⟨_, rfl, d, xs, rfl, ed3, fun t nt => ?_⟩
      have sN := same_new (H := H3) (o := .tup (xs.map fun x => V.ref x.2)) nt
      refine q _ t _ (s3.trans sN) (s3.free nt) upd_same ?_
      have z := (ndk_all nk).tm (TM.same sN)
      rw [ex] at z
      exact z
def spChanges (C : Addr) : Sp := fun vs H Q E => ∃ (d : D) (v : V), vs = [v] ∧ At H d v ∧ sz d ≤ 1000 ∧ (isProg d = false → Bad C H E v) ∧
  (isProg d = true → ∃ p, d = encP p ∧ Sml p ∧ NewT H Q (lightCh p))
theorem scCh : FnScope ["program"] ["program"] (defScope sChanges) := ⟨rfl, rfl, rfl, by decide +kernel, rfl, by decide +kernel, by decide +kernel⟩
theorem ok_changes {f fN fL : Addr} {fd fdN fdL : FuncData} (F : Fun K "changes" "changes" sChanges f fd)
    (GN : FnOk P w K mg base (L2.CX P w) 5 fN fdN ["program"] (spNeed C)) (kN : PySem.W.keepIn K (.ref fN) = true) (gN : mg "need_program" = some (.ref fN)) (bN : Binds K fdN ["program"] [])
    (GL : FnOk P w K mg base CX0 10 fL fdL ["program"] spLighter) (kL : PySem.W.keepIn K (.ref fL) = true) (gL : mg "lighter_of" = some (.ref fL)) (bL : Binds K fdL ["program"] []) : FnOk P w K mg base (L2.CX P w) 11 f fd ["program"] (spChanges C) := by
  refine F.okX scCh (fun vs H Q E h => ?_) (fun cdv A outer s H vs Q E hr h => ?_)
  · obtain ⟨d, v, rfl, _⟩ := h
    rfl
  · obtain ⟨d, v, rfl, hd, hz, qf, qt⟩ := h
    refine ⟨_, pss_cons (ps_expr (pe_callS GN (hr.mono (show 5 ≤ 10 by decide)) (by rfl) gN kN bN (fun σ => passAt (takes_of (E := E) rfl rfl rfl rfl) σ) (by exact (pa_cons (pv 0) pa_nil))))
      (pss_one (ps_ret (pe_call GL hr (by rfl) gL kL bL .nil pass0 (pa_cons (pv 0) pa_nil)))), ?_⟩
    refine ⟨_, rfl, d, v, rfl, hd, hz, fun e H1 s1 => ?_, fun e => ?_⟩
    · obtain ⟨p, rfl, hp, q⟩ := qt e
      exact ⟨_, rfl, p, v, rfl, hd.tm (TM.same s1), hp, fun H2 t us s2 nt ht a => q H2 t us (s1.trans s2) (s1.free nt) ht a⟩
    · exact fun H' d s nd => qf e H' d s nd
end
end K46

set_option Elab.async false
set_option linter.all false
set_option maxRecDepth 100000
set_option maxHeartbeats 4000000
/-! The law's pen: made, drawn from, picked with. -/
namespace K46
open PySem PySem.Spec PyProof.Rows L2
/-- what follows a statement is shown once -/
def tCut (t : TS) : TS := fun De σ H => ∃ G : L2.St → Hp → Prop, t { De with nx := G } σ H ∧ ∀ σ' H', G σ' H' → De.nx σ' H'
theorem ps_cut {X : Cx} {st : Stmt} {t : TS} (h : PS X st t) : PS X st (tCut t) := ⟨fun pins s σ H De I ⟨G, h1, h2⟩ => thn (h.run pins s σ H _ I h1) fun f s' q => by
  cases f with
  | next =>
    obtain ⟨σ', H', J, g⟩ := q
    exact ⟨σ', H', J, h2 σ' H' g⟩
  | brk => exact q
  | cont => exact q
  | ret u => exact q⟩
abbrev sPen : Stmt := topS 28
abbrev sDraw : Stmt := topS 29
abbrev sPick : Stmt := topS 30
def penK (l : Addr) (pos : Nat) (g c f : Int) : List (Key × V) := [(.inr "cells", .ref l), (.inr "at", .int pos), (.inr "digits", .int g), (.inr "count", .int c), (.inr "fold", .int f)]
/-- a pen at a, n draws done at most -/
def PenAt (H : Hp) (a : Addr) (n : Nat) : Prop := ∃ (l : Addr) (cells : List Int) (pos : Nat) (g f : Int) (c : Nat), H a = some (.dK (penK l pos g c f)) ∧ H l = some (.lst (cells.map V.int)) ∧ pos ≤ cells.length ∧ 0 ≤ g ∧ 0 ≤ f ∧ f < 2147483587 ∧ c ≤ n
/-- all but a stands -/
def But (a : Addr) (H H' : Hp) : Prop := ∀ b o, b ≠ a → H b = some o → H' b = some o
theorem But.refl (a : Addr) (H : Hp) : But a H H := fun _ _ _ h => h
theorem But.trans {a : Addr} {H H1 H2 : Hp} (x : But a H H1) (y : But a H1 H2) : But a H H2 := fun b o n h => y b o n (x b o n h)
theorem But.same {a : Addr} {H H' : Hp} (s : Same H H') : But a H H' := fun b o _ h => s b o h
theorem But.put {a : Addr} {H : Hp} {o : HO} : But a H (upd H a o) := fun b u n h => by rw [upd_ne n]; exact h
theorem PenAt.mono {H : Hp} {a : Addr} {n m : Nat} (p : PenAt H a n) (h : n ≤ m) : PenAt H a m := by
  obtain ⟨l, cells, pos, g, f, c, h1, h2, h3, h4, h5, h6, h7⟩ := p
  exact ⟨l, cells, pos, g, f, c, h1, h2, h3, h4, h5, h6, Nat.le_trans h7 h⟩
theorem PenAt.same {H H' : Hp} {a : Addr} {n : Nat} (p : PenAt H a n) (s : Same H H') : PenAt H' a n := by
  obtain ⟨l, cells, pos, g, f, c, h1, h2, h3⟩ := p
  exact ⟨l, cells, pos, g, f, c, s _ _ h1, s _ _ h2, h3⟩
/-- tuples stand -/
theorem PenAt.tm {H H' : Hp} {a : Addr} {n : Nat} (p : PenAt H a n) (s : But a H H') : TM H H' := fun b xs h => by
  obtain ⟨l, cells, pos, g, f, c, h1, h2, h3⟩ := p
  refine s b _ (fun z => ?_) h
  rw [z, h1] at h
  cases h
theorem PenAt.ne {H : Hp} {a b : Addr} {n : Nat} {xs : List V} (p : PenAt H a n) (h : H b = some (.lst xs)) : b ≠ a := fun z => by
  obtain ⟨l, cells, pos, g, f, c, h1, h2, h3⟩ := p
  rw [z, h1] at h
  cases h
section
variable {P : Program} {w : World} {K : PySem.W.Frag} {mg : Str → Option Value} {base : Heap}
/-- what the law's builtins want -/
structure Blt2 (mg : Str → Option Value) : Prop where
  int : mg "int" = none
  list : mg "list" = none
  len : mg "len" = none
def spPen (K : PySem.W.Frag) : Sp := fun vs H Q _ => ∃ (a : Addr) (ns : List Int), vs = [.ref a] ∧ SqL K H a (ns.map V.int) ∧ ∀ H' p, Same H H' → H p = none → PenAt H' p 0 → Q (.ref p) H'
def spDraw : Sp := fun vs H Q _ => ∃ (a : Addr) (n m : Nat), vs = [.ref a, .int m] ∧ PenAt H a n ∧ n < 100000 ∧ 0 < m ∧ m < 1000 ∧ ∀ H' (r : Nat), r < m → But a H H' → PenAt H' a (n + 1) → Q (.int r) H'
def spPick : Sp := fun vs H Q _ => ∃ (a b : Addr) (n : Nat) (xs : List V), vs = [.ref a, .ref b] ∧ PenAt H a n ∧ n < 100000 ∧ H b = some (.lst xs) ∧ 0 < xs.length ∧ xs.length < 1000 ∧ ∀ H' v, v ∈ xs → But a H H' → PenAt H' a (n + 1) → Q v H'
theorem scPe : FnScope ["script", "fold", "cell"] ["script"] (defScope sPen) := ⟨rfl, rfl, rfl, by decide +kernel, rfl, by decide +kernel, by decide +kernel⟩
theorem scDr : FnScope ["pen", "many", "cell", "digit", "mixed"] ["pen", "many"] (defScope sDraw) := ⟨rfl, rfl, rfl, by decide +kernel, rfl, by decide +kernel, by decide +kernel⟩
theorem scPi : FnScope ["pen", "some"] ["pen", "some"] (defScope sPick) := ⟨rfl, rfl, rfl, by decide +kernel, rfl, by decide +kernel, by decide +kernel⟩
theorem ok_pen {f : Addr} {fd : FuncData} (F : Fun K "_law_pen" "_law_pen" sPen f fd) (B : Blt2 mg) : FnOk P w K mg base CX0 1 f fd ["script"] (spPen K) := by
  refine F.ok scPe (fun vs H Q E h => ?_) (fun cdv A outer s H vs Q E hr h => ?_)
  · obtain ⟨a, ns, rfl, _⟩ := h
    rfl
  · obtain ⟨a, ns, rfl, hS, q⟩ := h
    refine ⟨_, pss_cons (ps_set (i := 1) scPe.nd rfl (.inl rfl) pe_int)
      (pss_cons (ps_for PassesOwn.never rfl (pi_list (pv 0)) (pg_name (i := 2) scPe.nd rfl (.inl rfl))
        (pss_one (ps_set (i := 1) scPe.nd rfl (.inl rfl) (pe_op op_mod (pe_callTy call_int1 (by rfl) B.int (by rfl) (pa_cons (pe_op op_add (pe_op op_mul (pv 1) pe_int) (pv 2)) pa_nil)) pe_int))))
      (pss_one (ps_ret (pe_disp (pps_cons pe_str (pe_callTy call_list_of (by rfl) B.list (by rfl) (pa_cons (pv 0) pa_nil)) (pps_cons pe_str pe_int (pps_cons pe_str pe_int (pps_cons pe_str pe_int (pps_cons pe_str (pv 1) pps_nil))))) (by rfl) (by rfl) (fun z => by cases z) (by decide))))), ?_⟩
    refine ⟨_, rfl, a, rfl, ⟨_, hS⟩, ?_⟩
    refine for_list (K := K) (a := a) (xs := ns.map V.int) (fun i σ H' => ∃ (f : Int) (x : Option V), σ = [some (.ref a), some (.int f), x] ∧ H' = H ∧ 0 ≤ f ∧ f < 2147483587) ⟨0, none, rfl, rfl, by decide, by decide⟩ (fun i σ H' _ ⟨_, _, _, e, _⟩ => by rw [e]; exact hS) ?_ ?_
    · rintro i x σ H' hx ⟨f, x2, rfl, rfl, f0, f1⟩
      obtain ⟨z, hz, rfl⟩ : ∃ z, ns[i]? = some z ∧ x = V.int z := by
        rw [List.getElem?_map] at hx
        cases e : ns[i]? with
        | none => rw [e] at hx; cases hx
        | some z => rw [e] at hx; exact ⟨z, rfl, (Option.some.inj hx).symm⟩
      refine ⟨_, rfl, _, _, rfl, rfl, .inl ⟨by omega, by omega⟩, _, rfl, _, _, rfl, rfl, ?_⟩
      refine .inl ⟨_, rfl, _, _, rfl, rfl, (by show (0 : Int) < 1000000007; decide), ?_⟩
      exact ⟨_, _, rfl, rfl, Int.emod_nonneg _ (by decide), Int.lt_trans (Int.emod_lt_of_pos _ (by decide)) (by decide)⟩
    · rintro σ H' ⟨f, x2, rfl, rfl, f0, f1⟩
      refine fun p np => ⟨_, rfl, a, _, rfl, .inl ((same_new np).seq hS), fun l nl => ⟨_, rfl, ?_⟩⟩
      have hlp : l ≠ p := fun z => by
        rw [z, upd_same] at nl
        cases nl
      refine ⟨by rw [upd_ne hlp.symm]; exact upd_same, penK l 0 0 0 f, rfl, by show 5 ≤ 15; decide, ?_⟩
      have em : mergeK [] (penK l 0 0 0 f) = penK l 0 0 0 f := by rfl
      rw [em]
      have s1 : Same H' (upd H' p (.dK [])) := same_new np
      have s2 := s1.trans (same_new (o := .lst (ns.map V.int)) nl)
      refine q _ p (same_mut s2 np) np ⟨l, ns, 0, 0, f, 0, upd_same, ?_, Nat.zero_le _, Int.le_refl _, f0, f1, Nat.le_refl _⟩
      rw [upd_ne hlp]
      exact upd_same
theorem dget_pen {H : Hp} {a : Addr} {kvs : List (Key × V)} {x : Str} {v : V} (e : H a = some (.dK kvs)) (h : valV kvs (.inr x) = some v) : DGet H a (.str x) (some v) := by
  have z := DGet.k (k := .inr x) e
  rw [h] at z
  exact z
theorem ok_draw {f : Addr} {fd : FuncData} (F : Fun K "_law_draw" "_law_draw" sDraw f fd) (B : Blt2 mg) : FnOk P w K mg base CX0 1 f fd ["pen", "many"] spDraw := by
  refine F.ok scDr (fun vs H Q E h => ?_) (fun cdv A outer s H vs Q E hr h => ?_)
  · obtain ⟨a, n, m, rfl, _⟩ := h
    rfl
  · obtain ⟨a, n, m, rfl, hp, hn, hm, hm2, q⟩ := h
    have hu : (A.deeper (envOfC "_law_draw" (defScope sDraw) s.heap.objs.size f cdv)).units + 1 < cLine := by
      have := hr.un
      omega
    refine ⟨_, pss_cons (ps_dput hu (pv 0) pe_str (pe_op op_add (pe_dget hu (pv 0) pe_str (fun _ _ => rfl)) pe_int) rfl)
      (pss_cons (ps_cut (ps_if (PW.pt (pw_and (pt_cmpR op_eq (pe_dget hu (pv 0) pe_str (fun _ _ => rfl)) pe_int (nomark _)) (pw_and1 (pt_cmpR op_lt (pe_dget hu (pv 0) pe_str (fun _ _ => rfl)) (pe_callB call_len_seq (by rfl) B.len PySem.boot_len (pa_cons (pe_dget hu (pv 0) pe_str (fun _ _ => rfl)) pa_nil)) (nomark _)))))
        (pss_cons (ps_set (i := 2) scDr.nd rfl (.inl rfl) (pe_ix ix_list (pe_dget hu (pv 0) pe_str (fun _ _ => rfl)) (pe_dget hu (pv 0) pe_str (fun _ _ => rfl)) (fun _ _ => rfl)))
          (pss_cons (ps_dput hu (pv 0) pe_str (pe_op op_add (pe_dget hu (pv 0) pe_str (fun _ _ => rfl)) pe_int) rfl)
          (pss_one (ps_if (pt_cmpR op_ge (pv 2) (pe_op op_pow pe_int pe_int) (nomark _))
            (pss_one (ps_dput hu (pv 0) pe_str (pe_op op_sub (pv 2) (pe_op op_pow pe_int pe_int)) rfl))
            (pss_one (ps_dput hu (pv 0) pe_str (pe_op op_mod (pe_callTy call_int1 (by rfl) B.int (by rfl) (pa_cons (pe_op op_add (pe_op op_mul (pe_dget hu (pv 0) pe_str (fun _ _ => rfl)) pe_int) (pv 2)) pa_nil)) pe_int) rfl)))))) pss_nil))
      (pss_cons (ps_if (pt_cmpR op_gt (pe_dget hu (pv 0) pe_str (fun _ _ => rfl)) pe_int (nomark _))
        (pss_cons (ps_set (i := 3) scDr.nd rfl (.inl rfl) (pe_op op_mod (pe_callTy call_int1 (by rfl) B.int (by rfl) (pa_cons (pe_dget hu (pv 0) pe_str (fun _ _ => rfl)) pa_nil)) (pv 1)))
          (pss_cons (ps_dput hu (pv 0) pe_str (pe_op op_fdiv (pe_dget hu (pv 0) pe_str (fun _ _ => rfl)) (pv 1)) rfl)
          (pss_one (ps_ret (pv 3))))) pss_nil)
      (pss_cons (ps_set (i := 4) scDr.nd rfl (.inl rfl) (pe_op op_add (pe_op op_add (pe_dget hu (pv 0) pe_str (fun _ _ => rfl)) (pe_op op_mul (pe_dget hu (pv 0) pe_str (fun _ _ => rfl)) pe_int)) pe_int))
      (pss_one (ps_ret (pe_op op_mod (pe_op op_fdiv (pe_callTy call_int1 (by rfl) B.int (by rfl) (pa_cons (pe_op op_mod (pe_op op_pow (pv 4) pe_int) pe_int) pa_nil)) pe_int) (pv 1))))))), ?_⟩
    obtain ⟨l, cells, pos, g, fo, c, ha, hl, hpos, g0, f0, f1, hc⟩ := hp
    have s5 : 5 < sizeLine := small1000 (by decide)
    have nla : l ≠ a := fun z => by rw [z, ha] at hl; cases hl
    -- pen['count'] = pen['count'] + 1
    refine ⟨_, rfl, a, _, rfl, dget_pen (x := "count") (v := .int c) ha rfl, _, _, rfl, rfl, ?_⟩
    refine ⟨_, rfl, a, _, rfl, DPut.k (k := .inr "count") ha s5, ?_⟩
    have k1 : putK (penK l pos g c fo) (.inr "count") (.int ((c : Int) + 1)) = penK l pos g ((c : Int) + 1) fo := by rfl
    rw [k1]
    have h1 : (upd H a (.dK (penK l pos g ((c : Int) + 1) fo))) a = some (.dK (penK l pos g ((c : Int) + 1) fo)) := upd_same
    have b1 : But a H (upd H a (.dK (penK l pos g ((c : Int) + 1) fo))) := But.put
    generalize upd H a (.dK (penK l pos g ((c : Int) + 1) fo)) = H1 at h1 b1
    have hl1 := b1 _ _ nla hl
    refine ⟨fun σ' H' => ∃ (x : Option V) (pos : Nat) (g f : Int), σ' = [some (.ref a), some (.int m), x, none, none] ∧ But a H H' ∧ H' a = some (.dK (penK l pos g ((c : Int) + 1) f)) ∧ pos ≤ cells.length ∧ 0 ≤ g ∧ 0 ≤ f ∧ f < 2147483587, ?_, ?_⟩
    · refine ⟨_, rfl, a, _, rfl, dget_pen (x := "digits") (v := .int g) h1 rfl, rfl, _, rfl, ?_⟩
      refine ite_bl (fun cg => ?_) (fun _ => ⟨_, pos, g, fo, rfl, b1, h1, hpos, g0, f0, f1⟩)
      refine ⟨_, rfl, a, _, rfl, dget_pen (x := "at") (v := .int pos) h1 rfl, _, rfl, a, _, rfl, dget_pen (x := "cells") (v := .ref l) h1 rfl, l, _, rfl, .inl (SqL.of hl1), _, _, rfl, rfl, _, rfl, ?_⟩
      refine ite_bl (fun cl => ?_) (fun _ => ⟨_, pos, g, fo, rfl, b1, h1, hpos, g0, f0, f1⟩)
      have hlt : pos < cells.length := by
        have z := of_decide_eq_true cl
        rw [List.length_map] at z
        omega
      have hz : (cells.map V.int)[pos]? = some (V.int cells[pos]) := by rw [List.getElem?_map, List.getElem?_eq_getElem hlt]; rfl
      refine ⟨_, rfl, a, _, rfl, dget_pen (x := "cells") (v := .ref l) h1 rfl, _, rfl, a, _, rfl, dget_pen (x := "at") (v := .int pos) h1 rfl, l, _, pos, .int cells[pos], rfl, rfl, SqL.of hl1, atI_nat hz, ?_⟩
      -- pen['at'] = pen['at'] + 1
      refine ⟨_, rfl, a, _, rfl, dget_pen (x := "at") (v := .int pos) h1 rfl, _, _, rfl, rfl, _, rfl, a, _, rfl, DPut.k (k := .inr "at") h1 s5, ?_⟩
      have k2 : putK (penK l pos g ((c : Int) + 1) fo) (.inr "at") (.int ((pos : Int) + 1)) = penK l (pos + 1) g ((c : Int) + 1) fo := by rfl
      rw [k2]
      have h2 : (upd H1 a (.dK (penK l (pos + 1) g ((c : Int) + 1) fo))) a = some (.dK (penK l (pos + 1) g ((c : Int) + 1) fo)) := upd_same
      have b2 : But a H (upd H1 a (.dK (penK l (pos + 1) g ((c : Int) + 1) fo))) := b1.trans But.put
      generalize upd H1 a (.dK (penK l (pos + 1) g ((c : Int) + 1) fo)) = H2 at h2 b2
      refine ⟨_, rfl, _, _, rfl, rfl, ⟨by decide, by decide, by decide⟩, _, _, rfl, rfl, _, rfl, ?_⟩
      refine ite_bl (fun cc => ?_) (fun cc => ?_)
      · refine ⟨_, rfl, _, _, rfl, rfl, ⟨by decide, by decide, by decide⟩, _, _, rfl, rfl, _, rfl, a, _, rfl, DPut.k (k := .inr "digits") h2 s5, ?_⟩
        have k3 : ∀ z : Int, putK (penK l (pos + 1) g ((c : Int) + 1) fo) (.inr "digits") (.int z) = penK l (pos + 1) z ((c : Int) + 1) fo := fun z => by rfl
        rw [k3]
        refine ⟨_, pos + 1, _, fo, rfl, b2.trans But.put, upd_same, hlt, ?_, f0, f1⟩
        have := of_decide_eq_true cc
        omega
      · refine ⟨_, rfl, a, _, rfl, dget_pen (x := "fold") (v := .int fo) h2 rfl, _, _, rfl, rfl, .inl ⟨by omega, by omega⟩, _, rfl, _, _, rfl, rfl, .inl ⟨_, rfl, _, _, rfl, rfl, (by show (0 : Int) < 2147483587; decide), ?_⟩⟩
        refine ⟨_, rfl, a, _, rfl, DPut.k (k := .inr "fold") h2 s5, ?_⟩
        have k3 : ∀ z : Int, putK (penK l (pos + 1) g ((c : Int) + 1) fo) (.inr "fold") (.int z) = penK l (pos + 1) g ((c : Int) + 1) z := fun z => by rfl
        rw [k3]
        exact ⟨_, pos + 1, g, _, rfl, b2.trans But.put, upd_same, hlt, g0, Int.emod_nonneg _ (by decide), Int.emod_lt_of_pos _ (by decide)⟩
    · rintro σ' H2 ⟨x, pos, g, fo, rfl, b2, h2, hpos, g0, f0, f1⟩
      have hl2 := b2 _ _ nla hl
      have hmi : (0 : Int) < m := by omega
      have rng : ∀ z : Int, ∃ r : Nat, z % (m : Int) = r ∧ r < m := fun z => by
        have z0 := Int.emod_nonneg z (show (m : Int) ≠ 0 by omega)
        have z1 := Int.emod_lt_of_pos z hmi
        exact ⟨(z % (m : Int)).toNat, by omega, by omega⟩
      refine ⟨_, rfl, a, _, rfl, dget_pen (x := "digits") (v := .int g) h2 rfl, _, _, rfl, rfl, _, rfl, ?_⟩
      refine ite_bl (fun cg => ?_) (fun _ => ?_)
      · obtain ⟨r, er, hr9⟩ := rng g
        refine ⟨_, rfl, a, _, rfl, dget_pen (x := "digits") (v := .int g) h2 rfl, .inl ⟨_, rfl, _, rfl, _, _, rfl, rfl, hmi, ?_⟩⟩
        refine ⟨_, rfl, a, _, rfl, dget_pen (x := "digits") (v := .int g) h2 rfl, _, rfl, _, _, rfl, rfl, ⟨hmi, by omega⟩, ?_⟩
        refine ⟨_, rfl, a, _, rfl, DPut.k (k := .inr "digits") h2 s5, ?_⟩
        have k3 : ∀ z : Int, putK (penK l pos g ((c : Int) + 1) fo) (.inr "digits") (.int z) = penK l pos z ((c : Int) + 1) fo := fun z => by rfl
        rw [k3]
        refine ⟨_, rfl, ?_⟩
        show Q (V.int (g % (m : Int))) _
        rw [er]
        refine q _ r hr9 (b2.trans But.put) ⟨l, cells, pos, _, fo, c + 1, upd_same, ?_, hpos, Int.ediv_nonneg g0 (by omega), f0, f1, by omega⟩
        rw [upd_ne nla]
        exact hl2
      · refine ⟨_, rfl, a, _, rfl, dget_pen (x := "fold") (v := .int fo) h2 rfl, _, rfl, a, _, rfl, dget_pen (x := "count") (v := .int ((c : Int) + 1)) h2 rfl, _, _, rfl, rfl, .inl ⟨by omega, by omega⟩, _, _, rfl, rfl, _, _, rfl, rfl, ?_⟩
        refine ⟨_, rfl, _, _, rfl, rfl, ⟨by decide, by decide, by omega⟩, _, _, rfl, rfl, (by show (0 : Int) < 2305843009213693951; decide), .inl ⟨_, rfl, _, _, rfl, rfl, ⟨by decide, by decide⟩, _, rfl, _, _, rfl, rfl, hmi, ?_⟩⟩
        obtain ⟨r, er, hr9⟩ := rng ((fo + ((c : Int) + 1) * 7907 + 37) ^ (17 : Int).toNat % 2305843009213693951 / 128)
        show Q (V.int ((fo + ((c : Int) + 1) * 7907 + 37) ^ (17 : Int).toNat % 2305843009213693951 / 128 % (m : Int))) _
        rw [er]
        exact q _ r hr9 b2 ⟨l, cells, pos, g, fo, c + 1, h2, hl2, hpos, g0, f0, f1, by omega⟩
theorem ok_pick {f fD : Addr} {fd fdD : FuncData} (F : Fun K "_law_pick" "_law_pick" sPick f fd) (B : Blt2 mg)
    (GD : FnOk P w K mg base CX0 1 fD fdD ["pen", "many"] spDraw) (kD : PySem.W.keepIn K (.ref fD) = true) (gD : mg "_law_draw" = some (.ref fD)) (bD : Binds K fdD ["pen", "many"] []) : FnOk P w K mg base CX0 2 f fd ["pen", "some"] spPick := by
  refine F.ok scPi (fun vs H Q E h => ?_) (fun cdv A outer s H vs Q E hr h => ?_)
  · obtain ⟨a, b, n, xs, rfl, _⟩ := h
    rfl
  · obtain ⟨a, b, n, xs, rfl, hp, hn, hb, h0, h1, q⟩ := h
    refine ⟨_, pss_one (ps_ret (pe_ix ix_list (pv 1) (pe_call GD hr (by rfl) gD kD bD .nil pass0 (pa_cons (pv 0) (pa_cons (pe_callB call_len_seq (by rfl) B.len PySem.boot_len (pa_cons (pv 1) pa_nil)) pa_nil))) (fun _ _ => rfl))), ?_⟩
    refine ⟨_, rfl, _, rfl, _, rfl, b, _, rfl, .inl (SqL.of hb), a, n, xs.length, rfl, hp, hn, h0, h1, fun H1 r hr1 b1 p1 => ?_⟩
    have hx : xs[r]? = some xs[r] := List.getElem?_eq_getElem hr1
    have hb1 := b1 _ _ (hp.ne hb) hb
    exact ⟨b, xs, r, xs[r], rfl, rfl, SqL.of hb1, atI_nat hx, q H1 _ (List.getElem_mem hr1) b1 p1⟩
end
end K46

set_option Elab.async false
set_option linter.all false
set_option maxRecDepth 100000
set_option maxHeartbeats 4000000
/-! The law's maker of tests (size 1) and of names. -/
namespace K46
open PySem PySem.Spec PyProof.Rows L2
theorem pss_dead {X : Cx} {st : List Stmt} : PSs X st (fun _ _ _ => False) := ⟨fun _ _ _ _ _ _ h => h.elim⟩
def tTCut (t : L2.St → Hp → (Bool → Hp → Prop) → Prop) : L2.St → Hp → (Bool → Hp → Prop) → Prop := fun σ H Q => ∃ G : Bool → Hp → Prop, t σ H G ∧ ∀ b H', G b H' → Q b H'
theorem pt_cut {X : Cx} {e : Expr} {t : L2.St → Hp → (Bool → Hp → Prop) → Prop} (h : PT X e t) : PT X e (tTCut t) := ⟨fun pins s σ H Q I ⟨G, h1, h2⟩ => thn (h.run pins s σ H _ I h1) fun b s' ⟨H', J, g⟩ => ⟨H', J, h2 b H' g⟩⟩
abbrev sLTest : Stmt := topS 31
abbrev sLNames : Stmt := topS 32
def okN (x : Str) : Bool := nameOk x && txtOk x
def Nms (H : Hp) (a : Addr) (xs : List Str) : Prop := H a = some (.lst (xs.map V.str)) ∧ (∀ x ∈ xs, okN x = true) ∧ xs.length ≤ 2
theorem strs_dp {K : PySem.W.Frag} {H : Hp} : ∀ xs : List Str, DpAll K H (xs.map V.str) (xs.map PyData.str)
  | [] => .nil
  | x :: r => .cons (.str x) (strs_dp r)
theorem Nms.shaped {H : Hp} {a : Addr} {xs : List Str} (h : Nms H a xs) : SeqAt.shaped (.list (xs.map PyData.str)) = true := by
  obtain ⟨_, hk, hl⟩ := h
  match xs, hk, hl with
  | [], _, _ => rfl
  | [x], hk, _ =>
    have h1 := txtOk.ok (Bool.and_eq_true_iff.mp (hk x (by simp))).2
    simp [SeqAt.shaped, PyData.canLay0, PyData.canLayAll0, PyData.depth, PyData.depthAll, h1]
  | [x, y], hk, _ =>
    have h1 := txtOk.ok (Bool.and_eq_true_iff.mp (hk x (by simp))).2
    have h2 := txtOk.ok (Bool.and_eq_true_iff.mp (hk y (by simp))).2
    simp [SeqAt.shaped, PyData.canLay0, PyData.canLayAll0, PyData.depth, PyData.depthAll, h1, h2]
theorem strs_eq_nil (xs : List Str) : PyData.eqv (.list (xs.map PyData.str)) (.list []) = decide (xs = []) := by
  cases xs <;> simp [PyData.eqv, PyData.eqvAll]
theorem Nms.but {H H' : Hp} {a p : Addr} {n : Nat} {xs : List Str} (h : Nms H a xs) (hp : PenAt H p n) (b : But p H H') : Nms H' a xs := ⟨b _ _ (hp.ne h.1) h.1, h.2⟩
theorem Nms.same {H H' : Hp} {a : Addr} {xs : List Str} (h : Nms H a xs) (s : Same H H') : Nms H' a xs := ⟨s _ _ h.1, h.2⟩
section
variable {P : Program} {w : World} {K : PySem.W.Frag} {mg : Str → Option Value} {base : Heap}
def spLTest : Sp := fun vs H Q _ => ∃ (a b : Addr) (n : Nat) (xs : List Str), vs = [.ref a, .ref b, .int 1] ∧ PenAt H a n ∧ n + 2 < 100000 ∧ Nms H b xs ∧ ∀ H' v t, szT t = 1 → (encT t).depth = 1 → okT t = true → At H' (encT t) v → But a H H' → PenAt H' a (n + 2) → Q v H'
theorem scLT : FnScope ["pen", "tests", "size", "way"] ["pen", "tests", "size"] (defScope sLTest) := ⟨rfl, rfl, rfl, by decide +kernel, rfl, by decide +kernel, by decide +kernel⟩
theorem ok_ltest {f fD fP : Addr} {fd fdD fdP : FuncData} (F : Fun K "_law_test" "_law_test" sLTest f fd) (B : Blt2 mg)
    (GD : FnOk P w K mg base CX0 1 fD fdD ["pen", "many"] spDraw) (kD : PySem.W.keepIn K (.ref fD) = true) (gD : mg "_law_draw" = some (.ref fD)) (bD : Binds K fdD ["pen", "many"] [])
    (GP : FnOk P w K mg base CX0 2 fP fdP ["pen", "some"] spPick) (kP : PySem.W.keepIn K (.ref fP) = true) (gP : mg "_law_pick" = some (.ref fP)) (bP : Binds K fdP ["pen", "some"] []) : FnOk P w K mg base CX0 3 f fd ["pen", "tests", "size"] spLTest := by
  refine F.ok scLT (fun vs H Q E h => ?_) (fun cdv A outer s H vs Q E hr h => ?_)
  · obtain ⟨a, b, n, xs, rfl, _⟩ := h
    rfl
  · obtain ⟨a, b, n, xs, rfl, hp, hn, hb, q⟩ := h
    have hr1 := hr.mono (show 1 ≤ 2 by decide)
    refine ⟨_, pss_cons (ps_if (PW.pt (pw_or (pt_cmpR op_lt (pv 2) pe_int (nomark _)) (pw_or1 (pt_cmpR op_eq (pe_call GD hr1 (by rfl) gD kD bD .nil pass0 (pa_cons (pv 0) (pa_cons pe_int pa_nil))) pe_int (nomark _)))))
      (pss_cons (ps_if (pt_cut (PW.pt (pw_or (pt_cmpR (op_eqD hr.units) (pv 1) (pe_lst pa_nil) (nomark _)) (pw_or1 (pt_cmpR op_eq (pe_call GD hr1 (by rfl) gD kD bD .nil pass0 (pa_cons (pv 0) (pa_cons pe_int pa_nil))) pe_int (nomark _))))))
          (pss_one (ps_ret (pe_tup (pa_cons (pe_call GP hr (by rfl) gP kP bP .nil pass0 (pa_cons (pv 0) (pa_cons (pe_lst (pa_cons pe_str (pa_cons pe_str pa_nil))) pa_nil))) pa_nil)))) pss_nil)
        (pss_one (ps_ret (pe_tup (pa_cons pe_str (pa_cons (pe_call GP hr (by rfl) gP kP bP .nil pass0 (pa_cons (pv 0) (pa_cons (pe_callTy call_list_of (by rfl) B.list (by rfl) (pa_cons (pv 1) pa_nil)) pa_nil))) pa_nil)))))) pss_nil)
      pss_dead, ?_⟩
    have sl : ∀ n : Nat, n ≤ 1000 → n ≤ sizeLine := fun n h => Nat.le_of_lt (small1000 h)
    refine ⟨_, rfl, _, _, rfl, rfl, _, rfl, ?_⟩
    refine iteT (iteT ?_)
    refine ⟨fun z H' => ∃ m, m ≤ n + 1 ∧ But a H H' ∧ PenAt H' a m ∧ (z = false → xs ≠ []), ?_, ?_⟩
    · refine ⟨_, rfl, sl 0 (by decide), fun e ne => ?_⟩
      have s1 : Same H (upd H e (.lst [])) := same_new ne
      have e1 : (upd H e (.lst [])) e = some (.lst []) := upd_same
      generalize upd H e (.lst []) = H1 at s1 e1
      refine ⟨_, _, .lst (SqL.of (s1 _ _ hb.1)) (strs_dp xs), .lst (SqL.of e1) .nil, hb.shaped, rfl, _, rfl, ?_⟩
      rw [strs_eq_nil]
      refine ite_bl (fun c => ?_) (fun c => ?_)
      · exact ⟨n, Nat.le_succ _, But.same s1, hp.same s1, fun z => nomatch z⟩
      · refine ⟨_, rfl, a, n, 6, rfl, hp.same s1, by omega, by decide, by decide, fun H2 r hr2 b2 p2 => ?_⟩
        exact ⟨rfl, _, rfl, n + 1, Nat.le_refl _, (But.same s1).trans b2, p2, fun _ => of_decide_eq_false c⟩
    · rintro z H2 ⟨m, hm, b2, p2, hz⟩
      cases z with
      | true =>
        refine iteT ?_
        refine ⟨_, rfl, sl 2 (by decide), fun e ne => ?_⟩
        have s3 : Same H2 (upd H2 e (.lst [.str "true", .str "false"])) := same_new ne
        have e3 : (upd H2 e (.lst [.str "true", .str "false"])) e = some (.lst [.str "true", .str "false"]) := upd_same
        generalize upd H2 e (.lst [.str "true", .str "false"]) = H3 at s3 e3
        refine ⟨a, e, m, _, rfl, p2.same s3, by omega, e3, by show 0 < 2; decide, by show 2 < 1000; decide, fun H4 v hv b4 p4 => ⟨sl 1 (by decide), fun t nt => ?_⟩⟩
        have s5 := same_new (H := H4) (o := .tup [v]) nt
        have b5 := (b2.trans (But.same s3)).trans (b4.trans (But.same s5))
        have p5 := (p4.same s5).mono (show m + 1 ≤ n + 2 by omega)
        have e5 : (upd H4 t (.tup [v])) t = some (.tup [v]) := upd_same
        rcases List.mem_cons.mp hv with rfl | hv
        · exact q _ _ .tr rfl rfl rfl (.tup e5 (.cons (.text "true" (by decide +kernel)) .nil)) b5 p5
        · rcases List.mem_cons.mp hv with rfl | hv
          · exact q _ _ .fa rfl rfl rfl (.tup e5 (.cons (.text "false" (by decide +kernel)) .nil)) b5 p5
          · cases hv
      | false =>
        refine iteF ?_
        have hb2 := hb.but hp b2
        refine ⟨_, rfl, _, rfl, b, _, rfl, .inl (SqL.of hb2.1), fun e ne => ?_⟩
        have s3 : Same H2 (upd H2 e (.lst (xs.map V.str))) := same_new ne
        have e3 : (upd H2 e (.lst (xs.map V.str))) e = some (.lst (xs.map V.str)) := upd_same
        generalize upd H2 e (.lst (xs.map V.str)) = H3 at s3 e3
        have hlen : 0 < xs.length := List.length_pos_iff.mpr (hz rfl)
        have hlen2 := hb.2.2
        refine ⟨a, e, m, _, rfl, p2.same s3, by omega, e3, by rw [List.length_map]; exact hlen, by rw [List.length_map]; omega, fun H4 v hv b4 p4 => ⟨sl 2 (by decide), fun t nt => ?_⟩⟩
        have s5 := same_new (H := H4) (o := .tup [.str "name", v]) nt
        have b5 := (b2.trans (But.same s3)).trans (b4.trans (But.same s5))
        have p5 := (p4.same s5).mono (show m + 1 ≤ n + 2 by omega)
        have e5 : (upd H4 t (.tup [.str "name", v])) t = some (.tup [.str "name", v]) := upd_same
        obtain ⟨x, hx, rfl⟩ := List.mem_map.mp hv
        have ok := Bool.and_eq_true_iff.mp (hb.2.1 x hx)
        exact q _ _ (.nm x) rfl rfl ok.1 (.tup e5 (.cons (.text "name" (by decide +kernel)) (.cons (.text x ok.2) .nil))) b5 p5
end
end K46

set_option Elab.async false
set_option linter.all false
set_option maxRecDepth 100000
set_option maxHeartbeats 4000000
/-! The law's maker of names and of programs. -/
namespace K46
open PySem PySem.Spec PyProof.Rows L2
abbrev sLProg : Stmt := topS 34
section
variable {P : Program} {w : World} {K : PySem.W.Frag} {mg : Str → Option Value} {base : Heap}
def spLNames : Sp := fun vs H Q _ => ∃ (a : Addr) (n : Nat), vs = [.ref a] ∧ PenAt H a n ∧ n + 2 < 100000 ∧
  ∀ H' t lt ld ts ds, But a H H' → H' t = some (.tup [.ref lt, .ref ld]) → Nms H' lt ts → Nms H' ld ds → ds ≠ [] → PenAt H' a (n + 2) → Q (.ref t) H'
theorem scLN : FnScope ["pen", "tests", "deeds"] ["pen"] (defScope sLNames) := ⟨rfl, rfl, rfl, by decide +kernel, rfl, by decide +kernel, by decide +kernel⟩
theorem ok_lnames {f fP : Addr} {fd fdP : FuncData} (F : Fun K "_law_names" "_law_names" sLNames f fd) (B : Blt2 mg)
    (GP : FnOk P w K mg base CX0 2 fP fdP ["pen", "some"] spPick) (kP : PySem.W.keepIn K (.ref fP) = true) (gP : mg "_law_pick" = some (.ref fP)) (bP : Binds K fdP ["pen", "some"] []) : FnOk P w K mg base CX0 3 f fd ["pen"] spLNames := by
  refine F.ok scLN (fun vs H Q E h => ?_) (fun cdv A outer s H vs Q E hr h => ?_)
  · obtain ⟨a, n, rfl, _⟩ := h
    rfl
  · obtain ⟨a, n, rfl, hp, hn, q⟩ := h
    refine ⟨_, pss_cons (ps_cut (ps_set (i := 1) scLN.nd rfl (.inl rfl) (pe_call GP hr (by rfl) gP kP bP .nil pass0 (pa_cons (pv 0) (pa_cons (pe_lst (pa_cons (pe_lst pa_nil) (pa_cons (pe_lst (pa_cons pe_str pa_nil)) (pa_cons (pe_lst (pa_cons pe_str pa_nil)) (pa_cons (pe_lst (pa_cons pe_str (pa_cons pe_str pa_nil))) (pa_cons (pe_lst (pa_cons pe_str (pa_cons pe_str pa_nil))) pa_nil)))))) pa_nil)))))
      (pss_cons (ps_cut (ps_set (i := 2) scLN.nd rfl (.inl rfl) (pe_call GP hr (by rfl) gP kP bP .nil pass0 (pa_cons (pv 0) (pa_cons (pe_lst (pa_cons (pe_lst (pa_cons pe_str pa_nil)) (pa_cons (pe_lst (pa_cons pe_str (pa_cons pe_str pa_nil))) (pa_cons (pe_lst (pa_cons pe_str (pa_cons pe_str pa_nil))) pa_nil)))) pa_nil)))))
      (pss_one (ps_ret (pe_tup (pa_cons (pe_callTy call_list_of (by rfl) B.list (by rfl) (pa_cons (pv 1) pa_nil)) (pa_cons (pe_callTy call_list_of (by rfl) B.list (by rfl) (pa_cons (pv 2) pa_nil)) pa_nil)))))), ?_⟩
    have sl : ∀ n : Nat, n ≤ 1000 → n ≤ sizeLine := fun n h => Nat.le_of_lt (small1000 h)
    refine ⟨fun σ' H' => ∃ l ts, σ' = [some (.ref a), some (.ref l), none] ∧ But a H H' ∧ Nms H' l ts ∧ PenAt H' a (n + 1), ?_, ?_⟩
    · refine ⟨_, rfl, sl 0 (by decide), fun l1 n1 => ⟨sl 1 (by decide), fun l2 n2 => ⟨sl 1 (by decide), fun l3 n3 => ⟨sl 2 (by decide), fun l4 n4 => ⟨sl 2 (by decide), fun l5 n5 => ⟨sl 5 (by decide), fun l6 n6 => ?_⟩⟩⟩⟩⟩⟩
      have s1 := same_new (o := .lst []) n1
      have s2 := same_new (o := .lst [.str "p"]) n2
      have s3 := same_new (o := .lst [.str "p"]) n3
      have s4 := same_new (o := .lst [.str "p", .str "q"]) n4
      have s5 := same_new (o := .lst [.str "q", .str "p"]) n5
      have s6 := same_new (o := .lst [.ref l1, .ref l2, .ref l3, .ref l4, .ref l5]) n6
      have m1 : Nms _ l1 [] := ⟨(s2.trans (s3.trans (s4.trans (s5.trans s6)))) _ _ upd_same, by decide +kernel, by decide⟩
      have m2 : Nms _ l2 ["p"] := ⟨(s3.trans (s4.trans (s5.trans s6))) _ _ upd_same, by decide +kernel, by decide⟩
      have m3 : Nms _ l3 ["p"] := ⟨(s4.trans (s5.trans s6)) _ _ upd_same, by decide +kernel, by decide⟩
      have m4 : Nms _ l4 ["p", "q"] := ⟨(s5.trans s6) _ _ upd_same, by decide +kernel, by decide⟩
      have m5 : Nms _ l5 ["q", "p"] := ⟨s6 _ _ upd_same, by decide +kernel, by decide⟩
      have s16 := s1.trans (s2.trans (s3.trans (s4.trans (s5.trans s6))))
      refine ⟨a, l6, n, _, rfl, hp.same s16, by omega, upd_same, by show 0 < 5; decide, by show 5 < 1000; decide, fun H' v hv b p' => ?_⟩
      have bb := (But.same s16).trans b
      have fin : ∀ (l : Addr) (ts : List Str), Nms _ l ts → v = .ref l → ∃ l ts, ([some (V.ref a), some v, none] : List (Option V)) = [some (.ref a), some (.ref l), none] ∧ But a H H' ∧ Nms H' l ts ∧ PenAt H' a (n + 1) := fun l ts m e => ⟨l, ts, by rw [e], bb, m.but (hp.same s16) b, p'⟩
      simp only [List.mem_cons, List.not_mem_nil, or_false] at hv
      rcases hv with e | e | e | e | e
      · exact fin l1 _ m1 e
      · exact fin l2 _ m2 e
      · exact fin l3 _ m3 e
      · exact fin l4 _ m4 e
      · exact fin l5 _ m5 e
    · rintro σ' H1 ⟨lt, ts, rfl, b1, mt, p1⟩
      refine ⟨fun σ' H' => ∃ l ds, σ' = [some (.ref a), some (.ref lt), some (.ref l)] ∧ But a H1 H' ∧ Nms H' l ds ∧ ds ≠ [] ∧ PenAt H' a (n + 2), ?_, ?_⟩
      · refine ⟨_, rfl, sl 1 (by decide), fun l2 n2 => ⟨sl 2 (by decide), fun l4 n4 => ⟨sl 2 (by decide), fun l5 n5 => ⟨sl 3 (by decide), fun l6 n6 => ?_⟩⟩⟩⟩
        have s2 := same_new (o := .lst [.str "a"]) n2
        have s4 := same_new (o := .lst [.str "a", .str "b"]) n4
        have s5 := same_new (o := .lst [.str "b", .str "a"]) n5
        have s6 := same_new (o := .lst [.ref l2, .ref l4, .ref l5]) n6
        have m2 : Nms _ l2 ["a"] := ⟨(s4.trans (s5.trans s6)) _ _ upd_same, by decide +kernel, by decide⟩
        have m4 : Nms _ l4 ["a", "b"] := ⟨(s5.trans s6) _ _ upd_same, by decide +kernel, by decide⟩
        have m5 : Nms _ l5 ["b", "a"] := ⟨s6 _ _ upd_same, by decide +kernel, by decide⟩
        have s16 := s2.trans (s4.trans (s5.trans s6))
        refine ⟨a, l6, n + 1, _, rfl, p1.same s16, by omega, upd_same, by show 0 < 3; decide, by show 3 < 1000; decide, fun H' v hv b p' => ?_⟩
        have bb := (But.same s16).trans b
        have fin : ∀ (l : Addr) (ts : List Str), Nms _ l ts → ts ≠ [] → v = .ref l → ∃ l ds, ([some (V.ref a), some (.ref lt), some v] : List (Option V)) = [some (.ref a), some (.ref lt), some (.ref l)] ∧ But a H1 H' ∧ Nms H' l ds ∧ ds ≠ [] ∧ PenAt H' a (n + 2) := fun l ts m z e => ⟨l, ts, by rw [e], bb, m.but (p1.same s16) b, z, p'⟩
        simp only [List.mem_cons, List.not_mem_nil, or_false] at hv
        rcases hv with e | e | e
        · exact fin l2 _ m2 (by decide) e
        · exact fin l4 _ m4 (by decide) e
        · exact fin l5 _ m5 (by decide) e
      · rintro σ' H2 ⟨ld, ds, rfl, b2, md, nz, p2⟩
        have mt2 := mt.but p1 b2
        refine ⟨_, rfl, lt, _, rfl, .inl (SqL.of mt2.1), fun l3 n3 => ⟨_, rfl, ld, _, rfl, .inl (SqL.of ((same_new n3) _ _ md.1)), fun l4 n4 => ⟨sl 2 (by decide), fun t nt => ?_⟩⟩⟩
        have s3 := same_new (o := .lst (ts.map V.str)) n3
        have s4 := same_new (o := .lst (ds.map V.str)) n4
        have s5 := same_new (o := .tup [.ref l3, .ref l4]) nt
        have s35 := s3.trans (s4.trans s5)
        exact q _ t l3 l4 ts ds (b1.trans (b2.trans (But.same s35))) upd_same ⟨(s4.trans s5) _ _ upd_same, mt.2⟩ ⟨s5 _ _ upd_same, md.2⟩ nz (p2.same s35)
end
end K46

set_option Elab.async false
set_option linter.all false
set_option maxRecDepth 100000
set_option maxHeartbeats 8000000
/-! The law's maker of programs. -/
namespace K46
open PySem PySem.Spec PyProof.Rows L2
def nB : Nat → Nat
  | 0 => 0
  | s + 1 => 4 + 3 * nB s
structure Made (k : Nat) (p : Pr) : Prop where
  ok : okP p = true
  hg : hgt p ≤ k
  sz : nP p + tP p + 2 ≤ 4 * k
  dep : (encP p).depth ≤ k + 1
theorem ifT {c : Bool} {A B : Prop} (hc : c = true) (h : A) : if c = true then A else B := by
  rw [if_pos hc]
  exact h
theorem ifF {c : Bool} {A B : Prop} (hc : c = false) (h : B) : if c = true then A else B := by
  rw [hc, if_neg Bool.false_ne_true]
  exact h
theorem made_thn {i j k : Nat} {x y : Pr} (mx : Made i x) (my : Made j y) (h : i + j = k) (h1 : 1 ≤ i) (h2 : 1 ≤ j) : Made k (.thn x y) := by
  obtain ⟨a1, a2, a3, a4⟩ := mx
  obtain ⟨b1, b2, b3, b4⟩ := my
  exact ⟨by simp [okP, a1, b1], by simp only [hgt]; omega, by simp only [nP, tP]; omega, by simp only [encP, NestedKey.depth, NestedKey.depthAll]; omega⟩
theorem made_cho {i j k : Nat} {x y : Pr} (mx : Made i x) (my : Made j y) (h : i + j = k) (h1 : 1 ≤ i) (h2 : 1 ≤ j) : Made k (.cho x y) := by
  obtain ⟨a1, a2, a3, a4⟩ := mx
  obtain ⟨b1, b2, b3, b4⟩ := my
  exact ⟨by simp [okP, a1, b1], by simp only [hgt]; omega, by simp only [nP, tP]; omega, by simp only [encP, NestedKey.depth, NestedKey.depthAll]; omega⟩
theorem made_ite {i j k : Nat} {t : Te} {x y : Pr} (mx : Made i x) (my : Made j y) (h : i + j = k) (h1 : 1 ≤ i) (h2 : 1 ≤ j) (t1 : szT t = 1) (t2 : (encT t).depth = 1) (t3 : okT t = true) : Made k (.ite t x y) := by
  obtain ⟨a1, a2, a3, a4⟩ := mx
  obtain ⟨b1, b2, b3, b4⟩ := my
  exact ⟨by simp [okP, a1, b1, t3], by simp only [hgt]; omega, by simp only [nP, tP]; omega, by simp only [encP, NestedKey.depth, NestedKey.depthAll, t2]; omega⟩
theorem made_whl {i k : Nat} {t : Te} {x : Pr} (mx : Made i x) (h : i + 1 = k) (h1 : 1 ≤ i) (t1 : szT t = 1) (t2 : (encT t).depth = 1) (t3 : okT t = true) : Made k (.whl t x) := by
  obtain ⟨a1, a2, a3, a4⟩ := mx
  exact ⟨by simp [okP, a1, t3], by simp only [hgt]; omega, by simp only [nP, tP]; omega, by simp only [encP, NestedKey.depth, NestedKey.depthAll, t2]; omega⟩
theorem made_rep {i k : Nat} {t : Te} {x : Pr} (mx : Made i x) (h : i + 1 = k) (h1 : 1 ≤ i) (t1 : szT t = 1) (t2 : (encT t).depth = 1) (t3 : okT t = true) : Made k (.rep x t) := by
  obtain ⟨a1, a2, a3, a4⟩ := mx
  exact ⟨by simp [okP, a1, t3], by simp only [hgt]; omega, by simp only [nP, tP]; omega, by simp only [encP, NestedKey.depth, NestedKey.depthAll, t2]; omega⟩
theorem made_loop {i k : Nat} {x : Pr} (mx : Made i x) (h : i + 1 = k) (h1 : 1 ≤ i) : Made k (.loop x) := by
  obtain ⟨a1, a2, a3, a4⟩ := mx
  exact ⟨by simp [okP, a1], by simp only [hgt]; omega, by simp only [nP, tP]; omega, by simp only [encP, NestedKey.depth, NestedKey.depthAll]; omega⟩
section
variable {P : Program} {w : World} {K : PySem.W.Frag} {mg : Str → Option Value} {base : Heap}
def spLProg (s : Nat) : Sp := fun vs H Q _ => ∃ (a lt ld : Addr) (n k : Nat) (ts ds : List Str), vs = [.ref a, .ref lt, .ref ld, .int k] ∧ 1 ≤ k ∧ k ≤ s ∧ PenAt H a n ∧ n + nB s < 100000 ∧ Nms H lt ts ∧ Nms H ld ds ∧ ds ≠ [] ∧
  ∀ H' p v, Made k p → At H' (encP p) v → But a H H' → PenAt H' a (n + nB s) → Q v H'
abbrev nsLP : List Str := ["pen", "tests", "deeds", "size", "way", "kind", "some", "one", "other", "test", "inner"]
theorem scLP : FnScope nsLP ["pen", "tests", "deeds", "size"] (defScope sLProg) := ⟨rfl, rfl, rfl, by decide +kernel, rfl, by decide +kernel, by decide +kernel⟩
theorem ok_lprog {f fD fP fT : Addr} {fd fdD fdP fdT : FuncData} (F : Fun K "_law_j_program" "_law_j_program" sLProg f fd) (g : mg "_law_j_program" = some (.ref f)) (b : Binds K fd ["pen", "tests", "deeds", "size"] []) (B : Blt2 mg)
    (GD : FnOk P w K mg base CX0 1 fD fdD ["pen", "many"] spDraw) (kD : PySem.W.keepIn K (.ref fD) = true) (gD : mg "_law_draw" = some (.ref fD)) (bD : Binds K fdD ["pen", "many"] [])
    (GP : FnOk P w K mg base CX0 2 fP fdP ["pen", "some"] spPick) (kP : PySem.W.keepIn K (.ref fP) = true) (gP : mg "_law_pick" = some (.ref fP)) (bP : Binds K fdP ["pen", "some"] [])
    (GT : FnOk P w K mg base CX0 3 fT fdT ["pen", "tests", "size"] spLTest) (kT : PySem.W.keepIn K (.ref fT) = true) (gT : mg "_law_test" = some (.ref fT)) (bT : Binds K fdT ["pen", "tests", "size"] []) :
    ∀ s : Nat, FnOk P w K mg base CX0 (s + 3) f fd ["pen", "tests", "deeds", "size"] (spLProg s)
  | 0 => by
    have no : ∀ vs H Q E, ¬ spLProg 0 vs H Q E := fun vs H Q E h => by
      obtain ⟨a, lt, ld, n, k, ts, ds, _, h1, h2, _⟩ := h
      omega
    exact ⟨fun vs H Q E h => absurd h (no vs H Q E), fun A outer s H args us vs Q E _ _ _ _ h => absurd h (no vs H Q E)⟩
  | s + 1 => by
    have G := ok_lprog F g b B GD kD gD bD GP kP gP bP GT kT gT bT s
    refine F.ok scLP (fun vs H Q E h => ?_) (fun cdv A outer sh H vs Q E hr h => ?_)
    · obtain ⟨a, lt, ld, n, k, ts, ds, rfl, _⟩ := h
      rfl
    obtain ⟨a, lt, ld, n, k, ts, ds, rfl, hk1, hks, hp, hn, ht, hd, hdn, q⟩ := h
    have hr1 := hr.mono (show 1 ≤ s + 3 by omega)
    have hr2 := hr.mono (show 2 ≤ s + 3 by omega)
    have hr3 := hr.mono (show 3 ≤ s + 3 by omega)
    have hu : (A.deeper (envOfC "_law_j_program" (defScope sLProg) sh.heap.objs.size f cdv)).units + 1 < cLine := by
      have := hr.un
      omega
    refine ⟨_, pss_cons (ps_if (pt_cmpR op_lt (pv 3) pe_int (nomark _))
        (pss_cons (ps_set (i := 4) scLP.nd rfl (.inl rfl) (pe_call GD hr1 (by rfl) gD kD bD .nil pass0 (pa_cons (pv 0) (pa_cons pe_int pa_nil))))
        (pss_cons (ps_if (pt_cmpR op_eq (pv 4) pe_int (nomark _)) (pss_one (ps_ret (pe_call GP hr2 (by rfl) gP kP bP .nil pass0 (pa_cons (pv 0) (pa_cons (pe_lst (pa_cons (pe_tup (pa_cons pe_str pa_nil)) (pa_cons (pe_tup (pa_cons pe_str pa_nil)) pa_nil))) pa_nil))))) pss_nil)
        (pss_one (ps_ret (pe_ifExp (pt_cut (PW.pt (pw_or (pt_cmpR op_eq (pv 4) pe_int (nomark _)) (pw_or1 (pt_cmpR (op_eqD hr.units) (pv 2) (pe_lst pa_nil) (nomark _))))))
          (pe_tup (pa_cons pe_str (pa_cons (pe_call GT hr3 (by rfl) gT kT bT .nil pass0 (pa_cons (pv 0) (pa_cons (pv 1) (pa_cons pe_int pa_nil)))) pa_nil)))
          (pe_tup (pa_cons pe_str (pa_cons (pe_call GP hr2 (by rfl) gP kP bP .nil pass0 (pa_cons (pv 0) (pa_cons (pe_callTy call_list_of (by rfl) B.list (by rfl) (pa_cons (pv 2) pa_nil)) pa_nil))) pa_nil)))))))) pss_nil)
      (pss_cons (ps_cut (ps_par (i := 5) (j := 6) rfl scLP.nd rfl rfl (by decide) rfl rfl (pa_cons (pe_call GP hr2 (by rfl) gP kP bP .nil pass0 (pa_cons (pv 0) (pa_cons (pe_lst (pa_cons pe_str (pa_cons pe_str (pa_cons pe_str (pa_cons pe_str (pa_cons pe_str (pa_cons pe_str (pa_cons pe_str pa_nil)))))))) pa_nil)))
          (pa_cons (pe_op op_add pe_int (pe_call GD hr1 (by rfl) gD kD bD .nil pass0 (pa_cons (pv 0) (pa_cons (pe_op op_sub (pv 3) pe_int) pa_nil)))) pa_nil)) (by rfl)))
      (pss_cons (ps_cut (ps_par (i := 7) (j := 8) rfl scLP.nd rfl rfl (by decide) rfl rfl (pa_cons (pe_call G hr (by rfl) g F.kp b .nil pass0 (pa_cons (pv 0) (pa_cons (pv 1) (pa_cons (pv 2) (pa_cons (pv 6) pa_nil)))))
          (pa_cons (pe_call G hr (by rfl) g F.kp b .nil pass0 (pa_cons (pv 0) (pa_cons (pv 1) (pa_cons (pv 2) (pa_cons (pe_op op_sub (pv 3) (pv 6)) pa_nil))))) pa_nil)) (by rfl)))
      (pss_cons (ps_cut (ps_if (pt_cmpR op_in_seq (pv 5) (pe_lst (pa_cons pe_str (pa_cons pe_str pa_nil))) (by rfl)) (pss_one (ps_ret (pe_tup (pa_cons (pv 5) (pa_cons (pv 7) (pa_cons (pv 8) pa_nil)))))) pss_nil))
      (pss_cons (ps_cut (ps_set (i := 9) scLP.nd rfl (.inl rfl) (pe_call GT hr3 (by rfl) gT kT bT .nil pass0 (pa_cons (pv 0) (pa_cons (pv 1) (pa_cons pe_int pa_nil))))))
      (pss_cons (ps_cut (ps_if (pt_cmpR op_eq (pv 5) pe_str (nomark _)) (pss_one (ps_ret (pe_tup (pa_cons pe_str (pa_cons (pv 9) (pa_cons (pv 7) (pa_cons (pv 8) pa_nil))))))) pss_nil))
      (pss_cons (ps_cut (ps_set (i := 10) scLP.nd rfl (.inl rfl) (pe_call G hr (by rfl) g F.kp b .nil pass0 (pa_cons (pv 0) (pa_cons (pv 1) (pa_cons (pv 2) (pa_cons (pe_op op_sub (pv 3) pe_int) pa_nil)))))))
      (pss_one (ps_ret (pe_dget hu (pe_disp (pps_cons pe_str (pe_tup (pa_cons pe_str (pa_cons (pv 9) (pa_cons (pv 10) pa_nil)))) (pps_cons pe_str (pe_tup (pa_cons pe_str (pa_cons (pv 10) (pa_cons (pv 9) pa_nil)))) (pps_cons pe_str (pe_tup (pa_cons pe_str (pa_cons (pv 10) pa_nil))) pps_nil))) (by rfl) (by rfl) (fun z => by cases z) (by decide)) (pv 5) (fun _ _ => rfl)))))))))), ?_⟩
    have sl : ∀ n : Nat, n ≤ 1000 → n ≤ sizeLine := fun n h => Nat.le_of_lt (small1000 h)
    have eB : nB (s + 1) = 4 + 3 * nB s := rfl
    refine ⟨_, rfl, _, _, rfl, rfl, _, rfl, ?_⟩
    refine ite_bl (fun c => ?_) (fun c => ?_)
    · have hk : k = 1 := by
        have := of_decide_eq_true c
        omega
      subst hk
      refine ⟨_, rfl, a, n, 6, rfl, hp, by omega, by decide, by decide, fun H1 r hr9 b1 p1 => ?_⟩
      refine ⟨_, rfl, rfl, _, rfl, ?_⟩
      refine ite_bl (fun c1 => ?_) (fun c1 => ?_)
      · refine ⟨_, rfl, sl 1 (by decide), fun t1 n1 => ⟨sl 1 (by decide), fun t2 n2 => ⟨sl 2 (by decide), fun l nl => ?_⟩⟩⟩
        have s1 := same_new (o := .tup [.str "skip"]) n1
        have s2 := same_new (o := .tup [.str "stop"]) n2
        have s3 := same_new (o := .lst [.ref t1, .ref t2]) nl
        have s13 := s1.trans (s2.trans s3)
        have e1 := (s2.trans s3) _ _ upd_same
        have e2 := s3 _ _ upd_same
        refine ⟨a, l, n + 1, _, rfl, p1.same s13, by omega, upd_same, by show 0 < 2; decide, by show 2 < 1000; decide, fun H4 v hv b4 p4 => ?_⟩
        have tm := (p1.same s13).tm b4
        have bb := b1.trans ((But.same s13).trans b4)
        have p5 := p4.mono (show n + 1 + 1 ≤ n + nB (s + 1) by omega)
        simp only [List.mem_cons, List.not_mem_nil, or_false] at hv
        rcases hv with rfl | rfl
        · exact q _ .skip _ ⟨rfl, by decide, by decide, by decide⟩ (.tup (tm _ _ e1) (.cons (.text "skip" (by decide +kernel)) .nil)) bb p5
        · exact q _ .stop _ ⟨rfl, by decide, by decide, by decide⟩ (.tup (tm _ _ e2) (.cons (.text "stop" (by decide +kernel)) .nil)) bb p5
      · refine ⟨fun _ H' => Same H1 H', ?_, ?_⟩
        · refine ⟨_, rfl, rfl, _, rfl, ?_⟩
          refine ite_bl (fun _ => Same.refl _) (fun _ => ?_)
          refine ⟨_, rfl, sl 0 (by decide), fun e ne => ?_⟩
          have hd1 := hd.but hp b1
          refine ⟨_, _, .lst (SqL.of ((same_new ne) _ _ hd1.1)) (strs_dp ds), .lst (SqL.of upd_same) .nil, hd1.shaped, rfl, _, rfl, same_new ne⟩
        · rintro z H2 s2
          have b2 := b1.trans (But.same s2)
          have p2 := p1.same s2
          cases z with
          | true =>
            refine iteT ?_
            refine ⟨_, rfl, _, rfl, a, lt, n + 1, ts, rfl, p2, by omega, ht.but hp b2, fun H3 v t hz hdp hok av b3 p3 => ⟨sl 2 (by decide), fun x nx => ?_⟩⟩
            have s4 := same_new (H := H3) (o := .tup [.str "assume", v]) nx
            refine q _ (.assume t) _ ⟨hok, by simp [hgt], by simp only [nP, tP, hz]; omega, ?_⟩ (.tup upd_same (.cons (.text "assume" (by decide +kernel)) (.cons (av.tm (TM.same s4)) .nil))) (b2.trans (b3.trans (But.same s4))) ((p3.same s4).mono (by omega))
            simp only [encP, NestedKey.depth, NestedKey.depthAll, hdp]
            omega
          | false =>
            refine iteF ?_
            have hd2 := hd.but hp b2
            refine ⟨_, rfl, _, rfl, ld, _, rfl, .inl (SqL.of hd2.1), fun e ne => ?_⟩
            have s3 := same_new (H := H2) (o := .lst (ds.map V.str)) ne
            have hlen : 0 < ds.length := List.length_pos_iff.mpr hdn
            have hlen2 := hd.2.2
            refine ⟨a, e, n + 1, _, rfl, p2.same s3, by omega, upd_same, by rw [List.length_map]; exact hlen, by rw [List.length_map]; omega, fun H4 v hv b4 p4 => ⟨sl 2 (by decide), fun x nx => ?_⟩⟩
            obtain ⟨y, hy, rfl⟩ := List.mem_map.mp hv
            have ok := Bool.and_eq_true_iff.mp (hd.2.1 y hy)
            have s5 := same_new (H := H4) (o := .tup [.str "deed", .str y]) nx
            refine q _ (.deed y) _ ⟨ok.1, by simp [hgt], by simp [nP, tP], by simp [encP, NestedKey.depth, NestedKey.depthAll]⟩ (.tup upd_same (.cons (.text "deed" (by decide +kernel)) (.cons (.text y ok.2) .nil))) (b2.trans ((But.same s3).trans (b4.trans (But.same s5)))) ((p4.same s5).mono (by omega))
    · have hk2 : 2 ≤ k := by
        have := of_decide_eq_false c
        omega
      -- kind, some
      refine ⟨fun σ' H' => ∃ (kd : Str) (i : Nat), σ' = [some (.ref a), some (.ref lt), some (.ref ld), some (.int k), none, some (.str kd), some (.int i), none, none, none, none] ∧ kd ∈ (["then", "if", "while", "choose", "loop", "repeat"] : List Str) ∧ 1 ≤ i ∧ i < k ∧ But a H H' ∧ PenAt H' a (n + 2), ?_, ?_⟩
      · refine ⟨_, rfl, sl 7 (by decide), fun l nl => ?_⟩
        have s1 := same_new (H := H) (o := .lst [.str "then", .str "then", .str "if", .str "while", .str "choose", .str "loop", .str "repeat"]) nl
        refine ⟨a, l, n, _, rfl, hp.same s1, by omega, upd_same, by show 0 < 7; decide, by show 7 < 1000; decide, fun H2 v hv b2 p2 => ?_⟩
        have hm : ((k : Int) - 1) = ((k - 1 : Nat) : Int) := by omega
        refine ⟨_, rfl, _, rfl, _, _, rfl, rfl, ?_⟩
        refine ⟨a, n + 1, k - 1, by rw [← hm]; rfl, p2, by omega, by omega, ?_, fun H3 r hr9 b3 p3 => ?_⟩
        · have := hks
          have e : s < 900 := by
            have := hr.dp
            have e2 : recursionLimit = 1000 := rfl
            omega
          omega
        · refine ⟨1, (r : Int), rfl, rfl, ?_⟩
          have hr' : ((1 : Int) + (r : Int)) = ((1 + r : Nat) : Int) := by omega
          refine ⟨v, .int ((1 : Int) + (r : Int)), rfl, ?_⟩
          rw [hr']
          simp only [List.mem_cons, List.not_mem_nil, or_false] at hv
          have fin : ∀ kd : Str, v = .str kd → kd ∈ (["then", "if", "while", "choose", "loop", "repeat"] : List Str) → ∃ (kd : Str) (i : Nat), ([some (.ref a), some (.ref lt), some (.ref ld), some (.int k), none, some v, some (.int ((1 + r : Nat) : Int)), none, none, none, none] : List (Option V)) = [some (.ref a), some (.ref lt), some (.ref ld), some (.int k), none, some (.str kd), some (.int i), none, none, none, none] ∧ kd ∈ (["then", "if", "while", "choose", "loop", "repeat"] : List Str) ∧ 1 ≤ i ∧ i < k ∧ But a H H3 ∧ PenAt H3 a (n + 2) :=
            fun kd e h => ⟨kd, 1 + r, by rw [e], h, by omega, by omega, (But.same s1).trans (b2.trans b3), p3⟩
          rcases hv with e | e | e | e | e | e | e
          · exact fin _ e (by decide)
          · exact fin _ e (by decide)
          · exact fin _ e (by decide)
          · exact fin _ e (by decide)
          · exact fin _ e (by decide)
          · exact fin _ e (by decide)
          · exact fin _ e (by decide)
      rintro σ1 H1 ⟨kd, i, rfl, hkd, hi1, hik, b1, p1⟩
      -- one, other
      refine ⟨fun σ' H' => ∃ (x y : Pr) (u v : V), σ' = [some (.ref a), some (.ref lt), some (.ref ld), some (.int k), none, some (.str kd), some (.int i), some u, some v, none, none] ∧ Made i x ∧ Made (k - i) y ∧ At H' (encP x) u ∧ At H' (encP y) v ∧ But a H H' ∧ PenAt H' a (n + 2 + 2 * nB s), ?_, ?_⟩
      · refine ⟨_, rfl, _, rfl, _, rfl, _, rfl, a, lt, ld, n + 2, i, ts, ds, rfl, hi1, by omega, p1, by omega, ht.but hp b1, hd.but hp b1, hdn, fun H2 x u mx ax b2 p2 => ?_⟩
        have b12 := b1.trans b2
        refine ⟨_, rfl, _, rfl, _, rfl, _, rfl, _, rfl, _, _, rfl, rfl, ?_⟩
        have hm : ((k : Int) - (i : Int)) = ((k - i : Nat) : Int) := by omega
        refine ⟨a, lt, ld, n + 2 + nB s, k - i, ts, ds, by rw [← hm]; rfl, by omega, by omega, p2, by omega, ht.but hp b12, hd.but hp b12, hdn, fun H3 y v my ay b3 p3 => ?_⟩
        exact ⟨u, v, rfl, x, y, u, v, rfl, mx, my, ax.tm (p2.tm b3), ay, b12.trans b3, p3.mono (by omega)⟩
      rintro σ2 H2 ⟨x, y, u, v, rfl, mx, my, ax, ay, b2, p2⟩
      have hd2 := hd.but hp b2
      have ht2 := ht.but hp b2
      -- kind in ['then', 'choose']
      refine ⟨fun σ' H' => σ' = [some (.ref a), some (.ref lt), some (.ref ld), some (.int k), none, some (.str kd), some (.int i), some u, some v, none, none] ∧ kd ∈ (["if", "while", "loop", "repeat"] : List Str) ∧ Same H2 H', ?_, ?_⟩
      · refine ⟨_, rfl, sl 2 (by decide), fun l nl => ?_⟩
        have s1 := same_new (H := H2) (o := .lst [.str "then", .str "choose"]) nl
        refine ⟨l, _, rfl, .inl (SqL.of upd_same), rfl, flat_strs ["then", "choose"], _, rfl, ?_⟩
        show if inV (.str kd) ((["then", "choose"] : List Str).map V.str) = true then _ else _
        rw [inV_strs]
        have p3 := (p2.same s1).mono (show n + 2 + 2 * nB s ≤ n + nB (s + 1) by omega)
        have ax1 := ax.tm (TM.same s1)
        have ay1 := ay.tm (TM.same s1)
        simp only [List.mem_cons, List.not_mem_nil, or_false] at hkd
        rcases hkd with rfl | rfl | rfl | rfl | rfl | rfl
        · refine ifT (by decide +kernel) ?_
          refine ⟨_, rfl, _, rfl, _, rfl, sl 3 (by decide), fun t nt => ?_⟩
          have s4 := same_new (o := .tup [.str "then", u, v]) nt
          exact q _ (.thn x y) _ (made_thn mx my (by omega) hi1 (by omega)) (.tup upd_same (.cons (.text "then" (by decide +kernel)) (.cons (ax1.tm (TM.same s4)) (.cons (ay1.tm (TM.same s4)) .nil)))) (b2.trans (But.same (s1.trans s4))) (p3.same s4)
        · exact ifF (by decide +kernel) ⟨rfl, by decide, s1⟩
        · exact ifF (by decide +kernel) ⟨rfl, by decide, s1⟩
        · refine ifT (by decide +kernel) ?_
          refine ⟨_, rfl, _, rfl, _, rfl, sl 3 (by decide), fun t nt => ?_⟩
          have s4 := same_new (o := .tup [.str "choose", u, v]) nt
          exact q _ (.cho x y) _ (made_cho mx my (by omega) hi1 (by omega)) (.tup upd_same (.cons (.text "choose" (by decide +kernel)) (.cons (ax1.tm (TM.same s4)) (.cons (ay1.tm (TM.same s4)) .nil)))) (b2.trans (But.same (s1.trans s4))) (p3.same s4)
        · exact ifF (by decide +kernel) ⟨rfl, by decide, s1⟩
        · exact ifF (by decide +kernel) ⟨rfl, by decide, s1⟩
      rintro σ3 H3 ⟨rfl, hkd3, s3⟩
      -- test
      refine ⟨fun σ' H' => ∃ (t : Te) (z : V), σ' = [some (.ref a), some (.ref lt), some (.ref ld), some (.int k), none, some (.str kd), some (.int i), some u, some v, some z, none] ∧ szT t = 1 ∧ (encT t).depth = 1 ∧ okT t = true ∧ At H' (encT t) z ∧ At H' (encP x) u ∧ At H' (encP y) v ∧ But a H H' ∧ PenAt H' a (n + 4 + 2 * nB s), ?_, ?_⟩
      · refine ⟨_, rfl, _, rfl, a, lt, n + 2 + 2 * nB s, ts, rfl, p2.same s3, by omega, ht2.same s3, fun H4 z t z1 z2 z3 az b4 p4 => ?_⟩
        have tm := (TM.same s3).trans ((p2.same s3).tm b4)
        exact ⟨t, z, rfl, z1, z2, z3, az, ax.tm tm, ay.tm tm, b2.trans ((But.same s3).trans b4), p4.mono (by omega)⟩
      rintro σ4 H4 ⟨t, z, rfl, z1, z2, z3, az, ax4, ay4, b4, p4⟩
      -- kind == 'if'
      refine ⟨fun σ' H' => σ' = [some (.ref a), some (.ref lt), some (.ref ld), some (.int k), none, some (.str kd), some (.int i), some u, some v, some z, none] ∧ kd ∈ (["while", "loop", "repeat"] : List Str) ∧ H' = H4, ?_, ?_⟩
      · refine ⟨_, rfl, rfl, _, rfl, ?_⟩
        refine ite_bl (fun c => ?_) (fun c => ?_)
        · refine ⟨_, rfl, _, rfl, _, rfl, sl 4 (by decide), fun t' nt => ?_⟩
          have s4 := same_new (o := .tup [.str "if", z, u, v]) nt
          exact q _ (.ite t x y) _ (made_ite mx my (by omega) hi1 (by omega) z1 z2 z3) (.tup upd_same (.cons (.text "if" (by decide +kernel)) (.cons (az.tm (TM.same s4)) (.cons (ax4.tm (TM.same s4)) (.cons (ay4.tm (TM.same s4)) .nil))))) (b4.trans (But.same s4)) ((p4.same s4).mono (by omega))
        · refine ⟨rfl, ?_, rfl⟩
          have ne : kd ≠ "if" := fun e => by
            rw [e] at c
            exact absurd c (by decide)
          rcases List.mem_cons.mp hkd3 with e | e
          · exact absurd e ne
          · exact e
      rintro σ5 H5 ⟨rfl, hkd5, rfl⟩
      -- inner
      have ht4 := ht.but hp b4
      have hd4 := hd.but hp b4
      refine ⟨fun σ' H' => ∃ (x : Pr) (u' : V), σ' = [some (.ref a), some (.ref lt), some (.ref ld), some (.int k), none, some (.str kd), some (.int i), some u, some v, some z, some u'] ∧ Made (k - 1) x ∧ At H' (encT t) z ∧ At H' (encP x) u' ∧ But a H H' ∧ PenAt H' a (n + 4 + 3 * nB s), ?_, ?_⟩
      · have hm : ((k : Int) - 1) = ((k - 1 : Nat) : Int) := by omega
        refine ⟨_, rfl, _, rfl, _, rfl, _, rfl, _, _, rfl, rfl, ?_⟩
        refine ⟨a, lt, ld, n + 4 + 2 * nB s, k - 1, ts, ds, by rw [← hm]; rfl, by omega, by omega, p4, by omega, ht4, hd4, hdn, fun H6 x' u' mx' ax' b6 p6 => ?_⟩
        exact ⟨x', u', rfl, mx', az.tm (p4.tm b6), ax', b4.trans b6, p6.mono (by omega)⟩
      rintro σ6 H6 ⟨x', u', rfl, mx', az6, ax6, b6, p6⟩
      refine fun p np => ⟨_, rfl, _, rfl, sl 3 (by decide), fun t1 n1 => ⟨_, rfl, _, rfl, sl 3 (by decide), fun t2 n2 => ⟨_, rfl, sl 2 (by decide), fun t3 n3 => ?_⟩⟩⟩
      have s0 := same_new (o := .dK []) np
      have s1 := same_new (o := .tup [.str "while", z, u']) n1
      have s2' := same_new (o := .tup [.str "repeat", u', z]) n2
      have s3' := same_new (o := .tup [.str "loop", u']) n3
      have ep := (s1.trans (s2'.trans s3')) _ _ upd_same
      have e1 := (s2'.trans s3') _ _ upd_same
      have e2 := s3' _ _ upd_same
      have s03 := s0.trans (s1.trans (s2'.trans s3'))
      have e3 : (upd (upd (upd (upd H6 p (.dK [])) t1 (.tup [.str "while", z, u'])) t2 (.tup [.str "repeat", u', z])) t3 (.tup [.str "loop", u'])) t3 = some (.tup [.str "loop", u']) := upd_same
      generalize upd (upd (upd (upd H6 p (.dK [])) t1 (.tup [.str "while", z, u'])) t2 (.tup [.str "repeat", u', z])) t3 (.tup [.str "loop", u']) = H7 at ep e1 e2 e3 s03
      have em : mergeK [] [((.inr "while" : Key), V.ref t1), (.inr "repeat", .ref t2), (.inr "loop", .ref t3)] = [((.inr "while" : Key), V.ref t1), (.inr "repeat", .ref t2), (.inr "loop", .ref t3)] := by rfl
      refine ⟨ep, [(.inr "while", .ref t1), (.inr "repeat", .ref t2), (.inr "loop", .ref t3)], rfl, by show 3 ≤ 15; decide, _, rfl, p, ?_⟩
      rw [em]
      have tm : TM H7 (upd H7 p (.dK [((.inr "while" : Key), V.ref t1), (.inr "repeat", .ref t2), (.inr "loop", .ref t3)])) := TM.mut ep (fun xs z => nomatch z)
      have s8 : Same H6 (upd H7 p (.dK [((.inr "while" : Key), V.ref t1), (.inr "repeat", .ref t2), (.inr "loop", .ref t3)])) := same_mut s03 np
      have e8 : (upd H7 p (.dK [((.inr "while" : Key), V.ref t1), (.inr "repeat", .ref t2), (.inr "loop", .ref t3)])) p = some (.dK [((.inr "while" : Key), V.ref t1), (.inr "repeat", .ref t2), (.inr "loop", .ref t3)]) := upd_same
      generalize upd H7 p (.dK [((.inr "while" : Key), V.ref t1), (.inr "repeat", .ref t2), (.inr "loop", .ref t3)]) = H8 at tm s8 e8
      have az8 := az6.tm (TM.same s8)
      have ax8 := ax6.tm (TM.same s8)
      have p8 := (p6.same s8).mono (show n + 4 + 3 * nB s ≤ n + nB (s + 1) by omega)
      have b8 := b6.trans (But.same s8)
      simp only [List.mem_cons, List.not_mem_nil, or_false] at hkd5
      rcases hkd5 with rfl | rfl | rfl
      · exact ⟨.ref t1, rfl, dget_pen e8 rfl, q _ (.whl t x') _ (made_whl mx' (by omega) (by omega) z1 z2 z3) (.tup (tm _ _ e1) (.cons (.text "while" (by decide +kernel)) (.cons az8 (.cons ax8 .nil)))) b8 p8⟩
      · exact ⟨.ref t3, rfl, dget_pen e8 rfl, q _ (.loop x') _ (made_loop mx' (by omega) (by omega)) (.tup (tm _ _ e3) (.cons (.text "loop" (by decide +kernel)) (.cons ax8 .nil))) b8 p8⟩
      · exact ⟨.ref t2, rfl, dget_pen e8 rfl, q _ (.rep x' t) _ (made_rep mx' (by omega) (by omega) z1 z2 z3) (.tup (tm _ _ e2) (.cons (.text "repeat" (by decide +kernel)) (.cons ax8 (.cons az8 .nil)))) b8 p8⟩
end
end K46

set_option Elab.async false
set_option linter.all false
set_option maxRecDepth 100000
set_option maxHeartbeats 4000000
/-! The law's part places. -/
namespace K46
open PySem PySem.Spec PyProof.Rows L2
abbrev sLParts : Stmt := topS 35
section
variable {P : Program} {w : World} {K : PySem.W.Frag} {mg : Str → Option Value} {base : Heap}
def spLParts : Sp := fun vs H Q _ => ∃ (p : Pr) (v : V), vs = [v] ∧ At H (encP p) v ∧ ∀ H' l, Same H H' → H' l = some (.lst ((places p).map fun n => V.int (n : Nat))) → Q (.ref l) H'
theorem scLPt : FnScope ["program"] ["program"] (defScope sLParts) := ⟨rfl, rfl, rfl, by decide +kernel, rfl, by decide +kernel, by decide +kernel⟩
theorem ok_lparts {f : Addr} {fd : FuncData} (F : Fun K "_law_parts" "_law_parts" sLParts f fd) : FnOk P w K mg base CX0 1 f fd ["program"] spLParts := by
  refine F.ok scLPt (fun vs H Q E h => ?_) (fun cdv A outer s H vs Q E hr h => ?_)
  · obtain ⟨p, v, rfl, _⟩ := h
    rfl
  · obtain ⟨p, v, rfl, hd, q⟩ := h
    refine ⟨_, pss_one (ps_ret (pe_dget2 (hu_of hr) (pe_disp (pps_cons pe_str (pe_lst (pa_cons pe_int (pa_cons pe_int pa_nil))) (pps_cons pe_str (pe_lst (pa_cons pe_int (pa_cons pe_int pa_nil))) (pps_cons pe_str (pe_lst (pa_cons pe_int pa_nil)) (pps_cons pe_str (pe_lst (pa_cons pe_int (pa_cons pe_int pa_nil)))
          (pps_cons pe_str (pe_lst (pa_cons pe_int pa_nil)) (pps_cons pe_str (pe_lst (pa_cons pe_int pa_nil)) pps_nil)))))) (by rfl) (by rfl) (fun z => by cases z) (by decide)) (pe_ix ix_tup (pv 0) pe_int (fun _ _ => rfl)) (pe_lst pa_nil) ⟨rfl, rfl, rfl, rfl⟩)), ?_⟩
    have sl : ∀ n : Nat, n ≤ 1000 → n ≤ sizeLine := fun n h => Nat.le_of_lt (small1000 h)
    obtain ⟨h, r, eh, hv⟩ := places_head p
    intro d nd
    refine ⟨sl 2 (by decide), fun q1 n1 => ⟨sl 2 (by decide), fun q2 n2 => ⟨sl 1 (by decide), fun q3 n3 => ⟨sl 2 (by decide), fun q4 n4 => ⟨sl 1 (by decide), fun q5 n5 => ⟨sl 1 (by decide), fun q6 n6 => ?_⟩⟩⟩⟩⟩⟩
    have s0 : Same H (upd H d (.dK [])) := same_new nd
    have s1 := same_new (H := upd H d (.dK [])) (o := .lst [.int 1, .int 2]) n1
    have s2 := same_new (H := upd (upd H d (.dK [])) q1 (.lst [.int 1, .int 2])) (o := .lst [.int 1, .int 2]) n2
    have s3 := same_new (H := upd (upd (upd H d (.dK [])) q1 (.lst [.int 1, .int 2])) q2 (.lst [.int 1, .int 2])) (o := .lst [.int 1]) n3
    have s4 := same_new (H := upd (upd (upd (upd H d (.dK [])) q1 (.lst [.int 1, .int 2])) q2 (.lst [.int 1, .int 2])) q3 (.lst [.int 1])) (o := .lst [.int 2, .int 3]) n4
    have s5 := same_new (H := upd (upd (upd (upd (upd H d (.dK [])) q1 (.lst [.int 1, .int 2])) q2 (.lst [.int 1, .int 2])) q3 (.lst [.int 1])) q4 (.lst [.int 2, .int 3])) (o := .lst [.int 2]) n5
    have s6 := same_new (H := upd (upd (upd (upd (upd (upd H d (.dK [])) q1 (.lst [.int 1, .int 2])) q2 (.lst [.int 1, .int 2])) q3 (.lst [.int 1])) q4 (.lst [.int 2, .int 3])) q5 (.lst [.int 2])) (o := .lst [.int 1]) n6
    have g6 : (upd (upd (upd (upd (upd (upd (upd H d (.dK [])) q1 (.lst [.int 1, .int 2])) q2 (.lst [.int 1, .int 2])) q3 (.lst [.int 1])) q4 (.lst [.int 2, .int 3])) q5 (.lst [.int 2])) q6 (.lst [.int 1])) q6 = some (.lst [.int 1]) := upd_same
    have g5 : (upd (upd (upd (upd (upd (upd (upd H d (.dK [])) q1 (.lst [.int 1, .int 2])) q2 (.lst [.int 1, .int 2])) q3 (.lst [.int 1])) q4 (.lst [.int 2, .int 3])) q5 (.lst [.int 2])) q6 (.lst [.int 1])) q5 = some (.lst [.int 2]) := s6 _ _ upd_same
    have g4 : (upd (upd (upd (upd (upd (upd (upd H d (.dK [])) q1 (.lst [.int 1, .int 2])) q2 (.lst [.int 1, .int 2])) q3 (.lst [.int 1])) q4 (.lst [.int 2, .int 3])) q5 (.lst [.int 2])) q6 (.lst [.int 1])) q4 = some (.lst [.int 2, .int 3]) := s6 _ _ (s5 _ _ upd_same)
    have g3 : (upd (upd (upd (upd (upd (upd (upd H d (.dK [])) q1 (.lst [.int 1, .int 2])) q2 (.lst [.int 1, .int 2])) q3 (.lst [.int 1])) q4 (.lst [.int 2, .int 3])) q5 (.lst [.int 2])) q6 (.lst [.int 1])) q3 = some (.lst [.int 1]) := s6 _ _ (s5 _ _ (s4 _ _ upd_same))
    have g2 : (upd (upd (upd (upd (upd (upd (upd H d (.dK [])) q1 (.lst [.int 1, .int 2])) q2 (.lst [.int 1, .int 2])) q3 (.lst [.int 1])) q4 (.lst [.int 2, .int 3])) q5 (.lst [.int 2])) q6 (.lst [.int 1])) q2 = some (.lst [.int 1, .int 2]) := s6 _ _ (s5 _ _ (s4 _ _ (s3 _ _ upd_same)))
    have g1 : (upd (upd (upd (upd (upd (upd (upd H d (.dK [])) q1 (.lst [.int 1, .int 2])) q2 (.lst [.int 1, .int 2])) q3 (.lst [.int 1])) q4 (.lst [.int 2, .int 3])) q5 (.lst [.int 2])) q6 (.lst [.int 1])) q1 = some (.lst [.int 1, .int 2]) := s6 _ _ (s5 _ _ (s4 _ _ (s3 _ _ (s2 _ _ upd_same))))
    have gd : (upd (upd (upd (upd (upd (upd (upd H d (.dK [])) q1 (.lst [.int 1, .int 2])) q2 (.lst [.int 1, .int 2])) q3 (.lst [.int 1])) q4 (.lst [.int 2, .int 3])) q5 (.lst [.int 2])) q6 (.lst [.int 1])) d = some (.dK []) := s6 _ _ (s5 _ _ (s4 _ _ (s3 _ _ (s2 _ _ (s1 _ _ upd_same)))))
    have sm := s0.trans (s1.trans (s2.trans (s3.trans (s4.trans (s5.trans s6)))))
    generalize upd (upd (upd (upd (upd (upd (upd H d (.dK [])) q1 (.lst [.int 1, .int 2])) q2 (.lst [.int 1, .int 2])) q3 (.lst [.int 1])) q4 (.lst [.int 2, .int 3])) q5 (.lst [.int 2])) q6 (.lst [.int 1]) = H1 at g1 g2 g3 g4 g5 g6 gd sm
    refine ⟨gd, [(Sum.inr "then", .ref q1), (Sum.inr "choose", .ref q2), (Sum.inr "loop", .ref q3), (Sum.inr "if", .ref q4), (Sum.inr "while", .ref q5), (Sum.inr "repeat", .ref q6)], rfl, (by show 6 ≤ 15; decide), ?_⟩
    rw [eh] at hd
    have nd' : ∀ a xs, H1 a = some (.tup xs) → a ≠ d := fun a xs e z => by
      rw [z, gd] at e
      cases e
    have nl' : ∀ a xs, H1 a = some (.lst xs) → a ≠ d := fun a xs e z => by
      rw [z, gd] at e
      cases e
    obtain ⟨a, xs, rfl, ha, _⟩ := hd.head
    have ha1 := sm _ _ ha
    have sm2 : Same H (upd H1 d (.dK (mergeK [] [(Sum.inr "then", .ref q1), (Sum.inr "choose", .ref q2), (Sum.inr "loop", .ref q3), (Sum.inr "if", .ref q4), (Sum.inr "while", .ref q5), (Sum.inr "repeat", .ref q6)]))) := same_mut sm nd
    refine ⟨d, rfl, .inl ⟨_, .inl upd_same⟩, _, rfl, a, _, 0, .str h, rfl, rfl, SqT.of ((upd_ne (nd' _ _ ha1)).trans ha1), atI_nat (j := 0) rfl, sl 0 (by decide), fun e0 ne0 => ?_⟩
    have s9 := same_new (H := upd H1 d (.dK (mergeK [] [(Sum.inr "then", .ref q1), (Sum.inr "choose", .ref q2), (Sum.inr "loop", .ref q3), (Sum.inr "if", .ref q4), (Sum.inr "while", .ref q5), (Sum.inr "repeat", .ref q6)]))) (o := .lst []) ne0
    refine ⟨_, DGet.k (k := Sum.inr h) (s9 _ _ upd_same), ?_⟩
    rw [hv]
    have sm3 := sm2.trans s9
    cases p with
    | thn _ _ => exact q _ q1 sm3 (s9 _ _ ((upd_ne (nl' _ _ g1)).trans g1))
    | cho _ _ => exact q _ q2 sm3 (s9 _ _ ((upd_ne (nl' _ _ g2)).trans g2))
    | loop _ => exact q _ q3 sm3 (s9 _ _ ((upd_ne (nl' _ _ g3)).trans g3))
    | ite _ _ _ => exact q _ q4 sm3 (s9 _ _ ((upd_ne (nl' _ _ g4)).trans g4))
    | whl _ _ => exact q _ q5 sm3 (s9 _ _ ((upd_ne (nl' _ _ g5)).trans g5))
    | rep _ _ => exact q _ q6 sm3 (s9 _ _ ((upd_ne (nl' _ _ g6)).trans g6))
    | skip => exact q _ e0 sm3 upd_same
    | stop => exact q _ e0 sm3 upd_same
    | deed _ => exact q _ e0 sm3 upd_same
    | assume _ => exact q _ e0 sm3 upd_same
end
end K46

set_option Elab.async false
set_option linter.all false
set_option maxRecDepth 100000
set_option maxHeartbeats 4000000
/-! The law's weight. -/
namespace K46
open PySem PySem.Spec PyProof.Rows L2
abbrev sLWeight : Stmt := topS 36
inductive Nd where
  | p (p : Pr)
  | t (t : Te)
def encN : Nd → D
  | .p p => encP p
  | .t t => encT t
def kidsN : Nd → List Nd
  | .p (.thn a b) => [.p a, .p b]
  | .p (.cho a b) => [.p a, .p b]
  | .p (.loop a) => [.p a]
  | .p (.ite t a b) => [.t t, .p a, .p b]
  | .p (.whl t a) => [.t t, .p a]
  | .p (.rep a t) => [.p a, .t t]
  | .p (.assume t) => [.t t]
  | .p _ => []
  | .t t => (kidsT t).map .t
def isD : Nd → Bool
  | .p (.deed _) => true
  | _ => false
def isN : Nd → Bool
  | .t (.nm _) => true
  | _ => false
def cS : Nd → Nat
  | .p p => nP p + tP p
  | .t t => szT t
def cD : Nd → Nat
  | .p p => K46.dP p
  | .t _ => 0
def cN : Nd → Nat
  | .p p => mP p
  | .t t => nmT t
def b01 (b : Bool) : Nat := if b = true then 1 else 0
theorem cS_eq (n : Nd) : cS n = sumBy cS (kidsN n) + 1 := by
  cases n with
  | p p => cases p <;> simp [cS, kidsN, sumBy, nP, tP] <;> omega
  | t t => cases t <;> simp [cS, kidsN, kidsT, sumBy, szT]
theorem cD_eq (n : Nd) : cD n = sumBy cD (kidsN n) + b01 (isD n) := by
  cases n with
  | p p => cases p <;> simp [cD, kidsN, sumBy, K46.dP, isD, b01]
  | t t => cases t <;> simp [cD, kidsN, kidsT, sumBy, isD, b01]
theorem cN_eq (n : Nd) : cN n = sumBy cN (kidsN n) + b01 (isN n) := by
  cases n with
  | p p => cases p <;> simp [cN, kidsN, sumBy, mP, isN, b01] <;> omega
  | t t => cases t <;> simp [cN, kidsN, kidsT, sumBy, nmT, isN, b01]
theorem encN_head (n : Nd) : ∃ h r, encN n = .tup (.text h :: r) ∧ (h == ("deed" : Str)) = isD n ∧ (h == ("name" : Str)) = isN n ∧ ((["deed", "name"] : List Str).contains h) = (isD n || isN n) ∧ ((isD n || isN n) = false → r = (kidsN n).map encN) ∧ ((isD n || isN n) = true → kidsN n = []) := by
  cases n with
  | p p => cases p <;> exact ⟨_, _, rfl, by kernel_rfl, by kernel_rfl, by kernel_rfl, fun z => by first | rfl | exact absurd (show true = false from z) (by decide), fun z => by first | rfl | exact absurd (show false = true from z) (by decide)⟩
  | t t => cases t <;> exact ⟨_, _, rfl, by kernel_rfl, by kernel_rfl, by kernel_rfl, fun z => by first | rfl | exact absurd (show true = false from z) (by decide), fun z => by first | rfl | exact absurd (show false = true from z) (by decide)⟩
theorem kids_dep {n k : Nd} {m : Nat} (h : (encN n).depth ≤ m) (hk : k ∈ kidsN n) : (encN k).depth ≤ m := by
  cases n with
  | p p =>
    cases p <;> simp [kidsN] at hk <;> simp only [encN, encP, NestedKey.depth, NestedKey.depthAll] at h <;>
      (first | (rcases hk with rfl | rfl | rfl) | (rcases hk with rfl | rfl) | subst hk) <;> simp only [encN] <;> omega
  | t t =>
    cases t <;> simp [kidsN, kidsT] at hk <;> simp only [encN, encT, NestedKey.depth, NestedKey.depthAll] at h <;>
      (first | (rcases hk with rfl | rfl) | subst hk) <;> simp only [encN] <;> omega
theorem depthAll_le {m : Nat} : ∀ {l : List D}, (∀ d ∈ l, d.depth ≤ m) → NestedKey.depthAll l ≤ m
  | [], _ => by simp [NestedKey.depthAll]
  | d :: l, h => by
    have := depthAll_le (l := l) (fun x hx => h x (List.mem_cons_of_mem _ hx))
    have := h d List.mem_cons_self
    simp only [NestedKey.depthAll]
    omega
theorem sum_len {l : List Nd} : l.length ≤ sumBy cS l := by
  induction l with
  | nil => simp [sumBy]
  | cons a l ih =>
    have := cS_eq a
    simp only [sumBy, List.map_cons, List.sum_cons, List.length_cons] at ih ⊢
    omega
section
variable {P : Program} {w : World} {K : PySem.W.Frag} {mg : Str → Option Value} {base : Heap}
def spLWeight : Sp := fun vs H Q _ => ∃ (p : Pr) (v : V), vs = [v] ∧ At H (encP p) v ∧ nP p + tP p ≤ 60 ∧ (encP p).depth ≤ 8 ∧ ∀ H' t, Same H H' → H t = none → H' t = some (.tup (wtD (wt p))) → Q (.ref t) H'
abbrev nsLW : List Str := ["program", "size", "deeds", "names", "waiting", "here"]
theorem scLW : FnScope nsLW ["program"] (defScope sLWeight) := ⟨rfl, rfl, rfl, by decide +kernel, rfl, by decide +kernel, by decide +kernel⟩
theorem ok_lweight {f : Addr} {fd : FuncData} (F : Fun K "_law_weight" "_law_weight" sLWeight f fd) (B : Blt2 mg) : FnOk P w K mg base CX0 1 f fd ["program"] spLWeight := by
  refine F.ok scLW (fun vs H Q E h => ?_) (fun cdv A outer s H vs Q E hr h => ?_)
  · obtain ⟨p, v, rfl, _⟩ := h
    rfl
  · obtain ⟨p, v, rfl, hd, hz, hdp, q⟩ := h
    refine ⟨_, pss_cons (ps_asg (pe_tup (pa_cons pe_int (pa_cons pe_int (pa_cons pe_int (pa_cons (pe_lst (pa_cons (pv 0) pa_nil)) pa_nil))))) (pg_tup rfl (pgs_cons (pg_name (i := 1) scLW.nd rfl (.inl rfl)) (pgs_cons (pg_name (i := 2) scLW.nd rfl (.inl rfl)) (pgs_cons (pg_name (i := 3) scLW.nd rfl (.inl rfl)) (pgs_cons (pg_name (i := 4) scLW.nd rfl (.inl rfl)) pgs_nil))))))
      (pss_cons (ps_while PassesOwn.never (pt_cmpR (op_neD hr.units) (pv 4) (pe_lst pa_nil) (nomark _))
        (pss_cons (ps_set (i := 5) scLW.nd rfl (.inl rfl) (pe_bm0 PySem.F.plainAttrs_list PySem.F.slot_list_pop PySem.F.type_list_pop mt_pop (pv 4)))
        (pss_cons (ps_set (i := 1) scLW.nd rfl (.inl rfl) (pe_op op_add (pv 1) pe_int))
        (pss_cons (ps_par (i := 2) (j := 3) rfl scLW.nd rfl rfl (by decide) rfl rfl (pa_cons (pe_op op_add (pv 2) (pe_callTy call_int1 (by rfl) B.int (by rfl) (pa_cons (pe_cmpR op_eq (pe_ix ix_tup (pv 5) pe_int (fun _ _ => rfl)) pe_str (nomark _)) pa_nil))) (pa_cons (pe_op op_add (pv 3) (pe_callTy call_int1 (by rfl) B.int (by rfl) (pa_cons (pe_cmpR op_eq (pe_ix ix_tup (pv 5) pe_int (fun _ _ => rfl)) pe_str (nomark _)) pa_nil))) pa_nil)) (by rfl))
        (pss_one (ps_if (pt_cmpR op_notIn_seq (pe_ix ix_tup (pv 5) pe_int (fun _ _ => rfl)) (pe_lst (pa_cons pe_str (pa_cons pe_str pa_nil))) (by rfl))
          (pss_one (ps_set (i := 4) scLW.nd rfl (.inl rfl) (pe_op op_cat (pv 4) (pe_callTy call_list_of (by rfl) B.list (by rfl) (pa_cons (pe_slice sl_tup (pv 5) (po_some pe_int) po_none) pa_nil))))) pss_nil))))))
      (pss_one (ps_ret (pe_tup (pa_cons (pv 1) (pa_cons (pv 2) (pa_cons (pv 3) pa_nil))))))), ?_⟩
    have sl : ∀ n : Nat, n ≤ 1000 → n ≤ sizeLine := fun n h => Nat.le_of_lt (small1000 h)
    refine ⟨_, rfl, sl 1 (by decide), fun l nl => ⟨sl 4 (by decide), fun t0 n0 => ?_⟩⟩
    refine ⟨t0, _, rfl, SqT.of upd_same, rfl, _, _, rfl, _, _, rfl, _, _, rfl, _, _, rfl, rfl, ?_⟩
    have s0 : Same H (upd H l (.lst [v])) := same_new nl
    have s1 := same_new (H := upd H l (.lst [v])) (o := .tup [.int 0, .int 0, .int 0, .ref l]) n0
    refine ⟨fun m σ H' => ∃ (l : Addr) (ns : List Nd) (us : List V) (a b c : Nat) (x5 : Option V), σ = [some v, some (.int a), some (.int b), some (.int c), some (.ref l), x5] ∧ m = sumBy cS ns ∧ Same H H' ∧ H l = none ∧ H' l = some (.lst us) ∧ AtAll H' (ns.map encN) us ∧ (∀ n ∈ ns, (encN n).depth ≤ 8) ∧
        a + sumBy cS ns = nP p + tP p ∧ b + sumBy cD ns = K46.dP p ∧ c + sumBy cN ns = mP p,
      ⟨sumBy cS [.p p], l, [.p p], [v], 0, 0, 0, none, rfl, rfl, s0.trans s1, nl, s1 _ _ upd_same, .cons (hd.tm (TM.same (s0.trans s1))) .nil, fun n hn => by simp at hn; subst hn; exact hdp, by simp [sumBy, cS], by simp [sumBy, cD], by simp [sumBy, cN]⟩, ?_⟩
    rintro m σ H1 ⟨l, ns, us, a, b, c, x5, rfl, rfl, s1, nl, hl, au, hdep, e1, e2, e3⟩
    refine ⟨_, rfl, sl 0 (by decide), fun e ne => ?_⟩
    have se : Same H1 (upd H1 e (.lst [])) := same_new ne
    have ee : (upd H1 e (.lst [])) e = some (.lst []) := upd_same
    generalize upd H1 e (.lst []) = H2 at se ee
    have s2 := s1.trans se
    have hl2 := se _ _ hl
    have au2 := au.tm (TM.same se)
    have hda : NestedKey.depthAll (ns.map encN) ≤ 60 := Nat.le_trans (depthAll_le (m := 8) fun d hd => by
      obtain ⟨n, hn, rfl⟩ := List.mem_map.mp hd
      exact hdep n hn) (by decide)
    refine ⟨_, _, .lst (SqL.of hl2) au2.dp, .lst (SqL.of ee) .nil, au2.shaped hda, rfl, _, rfl, ?_⟩
    have eqn : (!PyData.eqv (.list (NestedKey.datas (ns.map encN))) (.list [])) = !decide (ns = []) := by
      cases ns with
      | nil => rfl
      | cons a r => simp [NestedKey.datas, PyData.eqv, PyData.eqvAll]
    rw [eqn]
    rcases List.eq_nil_or_concat ns with rfl | ⟨init, n, rfl⟩
    · refine ifF rfl ?_
      have l0 := au2.length
      refine ⟨_, rfl, _, rfl, _, rfl, sl 3 (by decide), fun t nt => ?_⟩
      refine q _ t (s2.trans (same_new nt)) (s2.free nt) ?_
      have ew : wtD (wt p) = [V.int (a : Nat), V.int (b : Nat), V.int (c : Nat)] := by
        have e1' : a = nP p + tP p := by simpa [sumBy] using e1
        have e2' : b = K46.dP p := by simpa [sumBy] using e2
        have e3' : c = mP p := by simpa [sumBy] using e3
        rw [e1', e2', e3']
        rfl
      rw [ew]
      exact upd_same
    · refine ifT (by simp) ?_
      simp only [List.concat_eq_append] at au hdep e1 e2 e3 au2 hda ⊢
      have nS : sumBy cS (init ++ [n]) = sumBy cS init + cS n := by rw [sumBy_append, sumBy_one]
      have nD : sumBy cD (init ++ [n]) = sumBy cD init + cD n := by rw [sumBy_append, sumBy_one]
      have nN : sumBy cN (init ++ [n]) = sumBy cN init + cN n := by rw [sumBy_append, sumBy_one]
      have kS := cS_eq n
      have kD := cD_eq n
      have kN := cN_eq n
      have lus := au2.length
      rw [List.length_map, List.length_append] at lus
      have lsum := sum_len (l := init ++ [n])
      obtain ⟨k, u, ek, hu, aku⟩ := au2.last (by simp at lus; omega)
      have ek2 : encN n = k := by
        rw [List.map_append, List.map_cons, List.map_nil, List.dropLast_concat] at ek
        exact (List.append_inj' ek rfl).2 |> fun z => by injection z
      subst ek2
      have adl := au2.dropLast
      rw [List.map_append, List.map_cons, List.map_nil, List.dropLast_concat] at adl
      obtain ⟨h, r, eh, h1, h2, h3, h4, h5⟩ := encN_head n
      refine ⟨fun σ' H' => ∃ (l : Addr) (ns : List Nd) (us : List V) (a b c : Nat) (x5 : Option V), σ' = [some v, some (.int a), some (.int b), some (.int c), some (.ref l), x5] ∧ sumBy cS ns < sumBy cS (init ++ [n]) ∧ Same H H' ∧ H l = none ∧ H' l = some (.lst us) ∧ AtAll H' (ns.map encN) us ∧ (∀ n ∈ ns, (encN n).depth ≤ 8) ∧
        a + sumBy cS ns = nP p + tP p ∧ b + sumBy cD ns = K46.dP p ∧ c + sumBy cN ns = mP p, ?_, ?_⟩
      · rintro σ' H' ⟨l, ns, us, a, b, c, x5, r1, r2, r3⟩
        exact ⟨_, r2, l, ns, us, a, b, c, x5, r1, rfl, r3⟩
      refine ⟨.ref l, rfl, .inl ⟨rfl, _, SqL.of hl2⟩, l, us, u, rfl, rfl, hl2, hu, ?_⟩
      have tmu : TM H2 (upd H2 l (.lst us.dropLast)) := TM.lst hl2
      have s3 : Same H (upd H2 l (.lst us.dropLast)) := same_mut s2 nl
      have aku3 := aku.tm tmu
      have adl3 := adl.tm tmu
      have hl3 : (upd H2 l (.lst us.dropLast)) l = some (.lst us.dropLast) := upd_same
      generalize upd H2 l (.lst us.dropLast) = H3 at s3 aku3 adl3 hl3
      rw [eh] at aku3
      obtain ⟨pa, xs', rfl, hpa, axs⟩ := aku3.head
      refine ⟨_, rfl, _, _, rfl, rfl, ?_⟩
      refine ⟨_, rfl, _, rfl, pa, _, 0, .str h, rfl, rfl, SqT.of hpa, atI_nat (j := 0) rfl, rfl, .inr ⟨_, rfl, _, _, rfl, rfl, ?_⟩⟩
      refine ⟨_, rfl, _, rfl, pa, _, 0, .str h, rfl, rfl, SqT.of hpa, atI_nat (j := 0) rfl, rfl, .inr ⟨_, rfl, _, _, rfl, rfl, ?_⟩⟩
      refine ⟨_, _, rfl, ?_⟩
      rw [decide_str, decide_str, h1, h2]
      have eb : ((b : Int) + (if isD n = true then 1 else 0)) = ((b + b01 (isD n) : Nat) : Int) := by
        cases isD n <;> simp [b01]
      have ec : ((c : Int) + (if isN n = true then 1 else 0)) = ((c + b01 (isN n) : Nat) : Int) := by
        cases isN n <;> simp [b01]
      refine ⟨_, rfl, pa, _, 0, .str h, rfl, rfl, SqT.of hpa, atI_nat (j := 0) rfl, sl 2 (by decide), fun e4 ne4 => ?_⟩
      have s4 := same_new (H := H3) (o := .lst [.str "deed", .str "name"]) ne4
      refine ⟨e4, _, rfl, .inl (SqL.of upd_same), rfl, flat_strs ["deed", "name"], _, rfl, ?_⟩
      show if (!inV (.str h) ((["deed", "name"] : List Str).map V.str)) = true then _ else _
      rw [inV_strs, h3]
      generalize upd H3 e4 (.lst [.str "deed", .str "name"]) = H4 at s4
      have hl4 := s4 _ _ hl3
      have adl4 := adl3.tm (TM.same s4)
      have s5 := s3.trans s4
      have lin : init.length = us.dropLast.length := by
        have := adl.length
        rw [List.length_map] at this
        exact this
      have lle : init.length ≤ 60 := by
        rw [List.length_append] at lsum
        simp at lsum
        omega
      cases hleaf : (isD n || isN n) with
      | true =>
        refine ifF rfl ?_
        have k0 := h5 hleaf
        rw [k0] at kS kD kN
        simp only [sumBy, List.map_nil, List.sum_nil] at kS kD kN
        exact ⟨l, init, us.dropLast, a + 1, b + b01 (isD n), c + b01 (isN n), some (.ref pa), by rw [← eb, ← ec]; rfl, by omega, s5, nl, hl4, adl4, fun m hm => hdep m (List.mem_append_left _ hm), by omega, by omega, by omega⟩
      | false =>
        refine ifT rfl ?_
        have er := h4 hleaf
        have axs4 := axs.tm (TM.same s4)
        have hpa4 := s4 _ _ hpa
        have lk : (kidsN n).length = xs'.length := by
          have := axs.length
          rw [er, List.length_map] at this
          exact this
        have lk3 : (kidsN n).length ≤ 60 := by
          have := sum_len (l := kidsN n)
          omega
        have cut : cutV (V.str h :: xs') (some 1) none = xs' := by
          unfold cutV
          rw [show (1 : Int) = ((1 : Nat) : Int) by rfl, HT.sIx_none, HT.sIx_nat, Nat.min_eq_left (by simp)]
          exact List.take_of_length_le (by simp)
        refine ⟨_, rfl, _, rfl, _, rfl, pa, _, rfl, SqT.of hpa4, ?_, fun q1 n1 => ?_⟩
        · rw [show (1 : Int) = ((1 : Nat) : Int) by rfl, HT.sIx_nat, Nat.min_eq_left (by simp)]
          omega
        rw [cut]
        have s6 := same_new (H := H4) (o := .tup xs') n1
        refine ⟨q1, _, rfl, .inr (SqT.of upd_same), fun q2 n2 => ?_⟩
        have s7 := same_new (H := upd H4 q1 (.tup xs')) (o := .lst xs') n2
        refine ⟨l, q2, _, _, rfl, rfl, s7 _ _ (s6 _ _ hl4), upd_same, sl _ (by omega), fun l9 n9 => ?_⟩
        have s8 := same_new (H := upd (upd H4 q1 (.tup xs')) q2 (.lst xs')) (o := .lst (us.dropLast ++ xs')) n9
        have s68 := s6.trans (s7.trans s8)
        have sN : sumBy cS (init ++ kidsN n) = sumBy cS init + sumBy cS (kidsN n) := sumBy_append _ _ _
        have sN2 : sumBy cD (init ++ kidsN n) = sumBy cD init + sumBy cD (kidsN n) := sumBy_append _ _ _
        have sN3 : sumBy cN (init ++ kidsN n) = sumBy cN init + sumBy cN (kidsN n) := sumBy_append _ _ _
        refine ⟨l9, init ++ kidsN n, us.dropLast ++ xs', a + 1, b + b01 (isD n), c + b01 (isN n), some (.ref pa), by rw [← eb, ← ec]; rfl, by omega, s5.trans s68, s5.free (s6.free (s7.free n9)), upd_same, ?_, fun m hm => ?_, by omega, by omega, by omega⟩
        · rw [List.map_append, ← er]
          exact (adl4.append axs4).tm (TM.same s68)
        · rcases List.mem_append.mp hm with hm | hm
          · exact hdep m (List.mem_append_left _ hm)
          · exact kids_dep (hdep n (by simp)) hm
end
end K46

set_option Elab.async false
set_option linter.all false
set_option maxRecDepth 100000
set_option maxHeartbeats 4000000
/-! The law's paths: a part at a path, another part put there. -/
namespace K46
open PySem PySem.Spec PyProof.Rows L2
abbrev sLAt : Stmt := topS 37
abbrev sLPut : Stmt := topS 38
def kidAt : Pr → Nat → Option Pr
  | .thn a _, 1 => some a
  | .thn _ b, 2 => some b
  | .cho a _, 1 => some a
  | .cho _ b, 2 => some b
  | .loop a, 1 => some a
  | .ite _ a _, 2 => some a
  | .ite _ _ b, 3 => some b
  | .whl _ a, 2 => some a
  | .rep a _, 1 => some a
  | _, _ => none
def setAt : Pr → Nat → Pr → Pr
  | .thn _ b, 1, r => .thn r b
  | .thn a _, 2, r => .thn a r
  | .cho _ b, 1, r => .cho r b
  | .cho a _, 2, r => .cho a r
  | .loop _, 1, r => .loop r
  | .ite t _ b, 2, r => .ite t r b
  | .ite t a _, 3, r => .ite t a r
  | .whl t _, 2, r => .whl t r
  | .rep _ t, 1, r => .rep r t
  | p, _, _ => p
def atP : Pr → List Nat → Option Pr
  | p, [] => some p
  | p, n :: t => match kidAt p n with
    | some k => atP k t
    | none => none
def putAt : Pr → List Nat → Pr → Pr
  | _, [], r => r
  | p, n :: t, r => match kidAt p n with
    | some k => setAt p n (putAt k t r)
    | none => p
theorem kidAt_facts {p k : Pr} {n : Nat} (h : kidAt p n = some k) : 1 ≤ n ∧ n < (items (encP p)).length ∧ nth (encP p) n = encP k ∧ (∀ r, encP (setAt p n r) = setD (encP p) n (encP r)) ∧ k ∈ kidsP p := by
  unfold kidAt at h
  split at h <;> first
    | (cases h; exact ⟨by decide, by simp [encP, items], rfl, fun _ => rfl, by simp [kidsP]⟩)
    | cases h
theorem ints_dp {K : PySem.W.Frag} {H : Hp} : ∀ xs : List Nat, DpAll K H (xs.map fun n => V.int (n : Nat)) (xs.map fun n => PyData.int (n : Nat))
  | [] => .nil
  | x :: r => .cons (.int x) (ints_dp r)
theorem ints_lay : ∀ xs : List Nat, PyData.canLayAll0 (xs.map fun n => PyData.int (n : Nat)) = true ∧ PyData.depthAll (xs.map fun n => PyData.int (n : Nat)) = 0
  | [] => by simp [PyData.canLayAll0, PyData.depthAll]
  | x :: r => by
    have ih := ints_lay r
    simp [PyData.canLayAll0, PyData.depthAll, PyData.canLay0, PyData.depth, ih.1, ih.2]
theorem ints_shaped (xs : List Nat) : SeqAt.shaped (.list (xs.map fun n => PyData.int (n : Nat))) = true := by
  have h := ints_lay xs
  show (PyData.canLay0 (.list _) && decide (PyData.depth (.list _) ≤ 64)) = true
  rw [Bool.and_eq_true]
  refine ⟨by simp only [PyData.canLay0]; exact h.1, decide_eq_true ?_⟩
  simp only [PyData.depth, h.2]
  omega
theorem ints_eq_nil (xs : List Nat) : PyData.eqv (.list (xs.map fun n => PyData.int (n : Nat))) (.list []) = decide (xs = []) := by
  cases xs <;> simp [PyData.eqv, PyData.eqvAll]
abbrev pathV (xs : List Nat) : List V := xs.map fun n => V.int (n : Nat)
section
variable {P : Program} {w : World} {K : PySem.W.Frag} {mg : Str → Option Value} {base : Heap}
def spLAt : Sp := fun vs H Q _ => ∃ (p r : Pr) (v : V) (a : Addr) (path : List Nat), vs = [v, .ref a] ∧ At H (encP p) v ∧ H a = some (.lst (pathV path)) ∧ atP p path = some r ∧ ∀ u, At H (encP r) u → Q u H
theorem scLA : FnScope ["program", "path", "index"] ["program", "path"] (defScope sLAt) := ⟨rfl, rfl, rfl, by decide +kernel, rfl, by decide +kernel, by decide +kernel⟩
theorem ok_lat {f : Addr} {fd : FuncData} (F : Fun K "_law_at" "_law_at" sLAt f fd) : FnOk P w K mg base CX0 1 f fd ["program", "path"] spLAt := by
  refine F.ok scLA (fun vs H Q E h => ?_) (fun cdv A outer s H vs Q E hr h => ?_)
  · obtain ⟨p, r, v, a, path, rfl, _⟩ := h
    rfl
  · obtain ⟨p, r, v, a, path, rfl, hd, ha, hat, q⟩ := h
    refine ⟨_, pss_cons (ps_for PassesOwn.never rfl (pi_list (pv 1)) (pg_name (i := 2) scLA.nd rfl (.inl rfl))
        (pss_one (ps_set (i := 0) scLA.nd rfl (.inl rfl) (pe_ix ix_tup (pv 0) (pv 2) (fun _ _ => rfl)))))
      (pss_one (ps_ret (pv 0))), ?_⟩
    refine ⟨_, rfl, a, rfl, ⟨_, SqL.of ha⟩, ?_⟩
    refine for_list (K := K) (a := a) (xs := pathV path) (fun i σ H' => ∃ (o : Pr) (u : V) (x : Option V), σ = [some u, some (.ref a), x] ∧ H' = H ∧ At H (encP o) u ∧ atP o (path.drop i) = some r) ⟨p, v, none, rfl, rfl, hd, hat⟩ (fun i σ H' _ ⟨_, _, _, _, e, _⟩ => by rw [e]; exact SqL.of ha) ?_ ?_
    · rintro i x σ H' hx ⟨o, u, x2, rfl, rfl, au, eo⟩
      obtain ⟨z, hz, rfl⟩ : ∃ z, path[i]? = some z ∧ x = V.int (z : Nat) := by
        rw [List.getElem?_map] at hx
        cases e : path[i]? with
        | none => rw [e] at hx; cases hx
        | some z => rw [e] at hx; exact ⟨z, rfl, (Option.some.inj hx).symm⟩
      obtain ⟨hlt, hz2⟩ := List.getElem?_eq_some_iff.mp hz
      rw [List.drop_eq_getElem_cons hlt, hz2] at eo
      have eo2 : (match kidAt o z with | some k => atP k (path.drop (i + 1)) | none => none) = some r := eo
      cases hk : kidAt o z with
      | none =>
        rw [hk] at eo2
        cases eo2
      | some k =>
        rw [hk] at eo2
        obtain ⟨f1, f2, f3, f4, f5⟩ := kidAt_facts hk
        obtain ⟨b, xs, w1, rfl, hb, hw, aw⟩ := au.nth f2
        rw [f3] at aw
        exact ⟨_, rfl, _, rfl, b, xs, z, w1, rfl, rfl, SqT.of hb, atI_nat hw, k, w1, _, rfl, rfl, aw, eo2⟩
    · rintro σ H' ⟨o, u, x2, rfl, rfl, au, eo⟩
      rw [show path.drop (pathV path).length = [] from List.drop_of_length_le (by rw [List.length_map]; exact Nat.le_refl _)] at eo
      cases (Option.some.inj eo : o = r)
      exact ⟨_, rfl, q u au⟩
def spLPut (n : Nat) : Sp := fun vs H Q _ => ∃ (p r o : Pr) (v u : V) (a : Addr) (path : List Nat), vs = [v, .ref a, u] ∧ path.length ≤ n ∧ At H (encP p) v ∧ At H (encP r) u ∧ H a = some (.lst (pathV path)) ∧ atP p path = some o ∧
  ∀ H' z, Same H H' → At H' (encP (putAt p path r)) z → Q z H'
theorem scLU : FnScope ["program", "path", "part"] ["program", "path", "part"] (defScope sLPut) := ⟨rfl, rfl, rfl, by decide +kernel, rfl, by decide +kernel, by decide +kernel⟩
theorem lput_turn {f : Addr} {fd : FuncData} (F : Fun K "_law_put" "_law_put" sLPut f fd) (g : mg "_law_put" = some (.ref f)) (b : Binds K fd ["program", "path", "part"] []) (n : Nat)
    (G : ∀ m, m + 1 = n → FnOk P w K mg base CX0 n f fd ["program", "path", "part"] (spLPut m)) : FnOk P w K mg base CX0 (n + 1) f fd ["program", "path", "part"] (spLPut n) := by
    refine F.ok scLU (fun vs H Q E h => ?_) (fun cdv A outer s H vs Q E hr h => ?_)
    · obtain ⟨p, r, o, v, u, a, path, rfl, _⟩ := h
      rfl
    obtain ⟨p, r, o, v, u, a, path, rfl, hlen, hd, he, ha, hat, q⟩ := h
    have sl : ∀ n : Nat, n ≤ 1000 → n ≤ sizeLine := fun n h => Nat.le_of_lt (small1000 h)
    cases path with
    | nil =>
      refine ⟨_, pss_cons (ps_if (pt_cmpR (op_eqD hr.units) (pv 1) (pe_lst pa_nil) (nomark _)) (pss_one (ps_ret (pv 2))) pss_nil) pss_dead, ?_⟩
      refine ⟨_, rfl, sl 0 (by decide), fun e ne => ?_⟩
      have s1 := same_new (H := H) (o := .lst []) ne
      refine ⟨_, _, .lst (SqL.of (s1 _ _ ha)) (ints_dp []), .lst (SqL.of upd_same) .nil, ints_shaped [], rfl, _, rfl, ?_⟩
      rw [ints_eq_nil]
      exact iteT ⟨_, rfl, q _ u s1 (he.tm (TM.same s1))⟩
    | cons i rest =>
      obtain ⟨m, rfl⟩ : ∃ m, n = m + 1 := by
        cases n with
        | zero => simp at hlen
        | succ m => exact ⟨m, rfl⟩
      have G1 := G m rfl
      refine ⟨_, pss_cons (ps_if (pt_cmpR (op_eqD hr.units) (pv 1) (pe_lst pa_nil) (nomark _)) (pss_one (ps_ret (pv 2))) pss_nil)
        (pss_one (ps_ret (pe_op op_catT (pe_op op_catT (pe_slice sl_tup (pv 0) po_none (po_some (pe_ix ix_list (pv 1) pe_int (fun _ _ => rfl))))
          (pe_tup (pa_cons (pe_call G1 hr (by rfl) g F.kp b .nil pass0 (pa_cons (pe_ix ix_tup (pv 0) (pe_ix ix_list (pv 1) pe_int (fun _ _ => rfl)) (fun _ _ => rfl)) (pa_cons (pe_slice sl_list (pv 1) (po_some pe_int) po_none) (pa_cons (pv 2) pa_nil)))) pa_nil)))
          (pe_slice sl_tup (pv 0) (po_some (pe_op op_add (pe_ix ix_list (pv 1) pe_int (fun _ _ => rfl)) pe_int)) po_none)))), ?_⟩
      refine ⟨_, rfl, sl 0 (by decide), fun e ne => ?_⟩
      have s0 := same_new (H := H) (o := .lst []) ne
      refine ⟨_, _, .lst (SqL.of (s0 _ _ ha)) (ints_dp (i :: rest)), .lst (SqL.of upd_same) .nil, ints_shaped (i :: rest), rfl, _, rfl, ?_⟩
      rw [ints_eq_nil]
      refine iteF ?_
      generalize upd H e (.lst []) = H0 at s0
      have hat2 : (match kidAt p i with | some k => atP k rest | none => none) = some o := hat
      cases hk : kidAt p i with
      | none =>
        rw [hk] at hat2
        cases hat2
      | some k =>
        rw [hk] at hat2
        have hat3 : atP k rest = some o := hat2
        have eput : putAt p (i :: rest) r = setAt p i (putAt k rest r) := by
          show (match kidAt p i with | some k => setAt p i (putAt k rest r) | none => p) = _
          rw [hk]
        obtain ⟨f1, f2, f3, f4, f5⟩ := kidAt_facts hk
        obtain ⟨b1, xs, w1, rfl, hp, hw, aw⟩ := (hd.tm (TM.same s0)).nth f2
        rw [f3] at aw
        obtain ⟨b2, xs2, e2, hp2, ax⟩ := AtAll.inv_tup (hd.tm (TM.same s0)) (by omega)
        cases e2
        have exs : xs2 = xs := by
          rw [hp] at hp2
          injection hp2 with z
          injection z with z
          exact z.symm
        subst exs
        have lx := ax.length
        have i4 := encP_items4 p
        have ha0 := s0 _ _ ha
        have c1 : cutV xs2 none (some (i : Int)) = xs2.take i := by
          unfold cutV
          rw [HT.sIx_none, HT.sIx_nat, List.drop_zero, Nat.sub_zero, Nat.min_eq_left (by omega)]
        have c2 : cutV xs2 (some ((i : Int) + 1)) none = xs2.drop (i + 1) := by
          unfold cutV
          rw [show ((i : Int) + 1) = ((i + 1 : Nat) : Int) by omega, HT.sIx_none, HT.sIx_nat, Nat.min_eq_left (by omega)]
          exact List.take_of_length_le (by rw [List.length_drop]; omega)
        have c3 : cutV (pathV (i :: rest)) (some 1) none = pathV rest := by
          unfold cutV
          rw [show (1 : Int) = ((1 : Nat) : Int) by rfl, HT.sIx_none, HT.sIx_nat, Nat.min_eq_left (by simp)]
          exact List.take_of_length_le (by simp)
        refine ⟨_, rfl, _, rfl, a, _, 0, .int i, rfl, rfl, SqL.of ha0, atI_nat (j := 0) rfl, ?_⟩
        refine ⟨_, rfl, b1, xs2, rfl, SqT.of hp, ?_, fun q1 n1 => ?_⟩
        · rw [HT.sIx_none, HT.sIx_nat, Nat.min_eq_left (by omega)]
          omega
        rw [c1]
        have s1 := same_new (H := H0) (o := .tup (xs2.take i)) n1
        have hp1 := s1 _ _ hp
        have ha1 := s1 _ _ ha0
        generalize hH1 : upd H0 q1 (.tup (xs2.take i)) = H1 at s1 hp1 ha1
        have eq1 : H1 q1 = some (.tup (xs2.take i)) := by
          rw [← hH1]
          exact upd_same
        have s01 := s0.trans s1
        refine ⟨_, rfl, _, rfl, a, _, 0, .int i, rfl, rfl, SqL.of ha1, atI_nat (j := 0) rfl, b1, xs2, i, w1, rfl, rfl, SqT.of hp1, atI_nat hw, ?_⟩
        refine ⟨_, rfl, _, rfl, a, _, rfl, SqL.of ha1, fun q2 n2 => ?_⟩
        rw [c3]
        have s2 := same_new (H := H1) (o := .lst (pathV rest)) n2
        refine ⟨_, rfl, k, r, o, w1, u, q2, rest, rfl, by simp at hlen; omega, aw.tm (TM.same (s1.trans s2)), he.tm (TM.same (s01.trans s2)), upd_same, hat3, fun H3 z s3 az => ?_⟩
        refine ⟨sl 1 (by decide), fun q3 n3 => ?_⟩
        have s4 := same_new (H := H3) (o := .tup [z]) n3
        have lt1 : (xs2.take i).length = i := by rw [List.length_take]; omega
        have eq4 := s4 _ _ (s3 _ _ (s2 _ _ eq1))
        refine ⟨q1, q3, _, [z], rfl, rfl, SqT.of eq4, SqT.of upd_same, fun zz => ?_, sl _ (by simp only [List.length_cons, List.length_nil]; omega), fun zz => (nomatch zz), fun _ q5 n5 => ?_⟩
        · rw [zz] at lt1
          simp at lt1
          omega
        have s5 := same_new (H := upd H3 q3 (.tup [z])) (o := .tup (xs2.take i ++ [z])) n5
        have s35 := s2.trans (s3.trans (s4.trans s5))
        refine ⟨_, rfl, _, rfl, a, _, 0, .int i, rfl, rfl, SqL.of (s35 _ _ ha1), atI_nat (j := 0) rfl, _, _, rfl, rfl, _, rfl, b1, xs2, rfl, SqT.of (s35 _ _ hp1), ?_, fun q6 n6 => ?_⟩
        · rw [show ((i : Int) + 1) = ((i + 1 : Nat) : Int) by omega, HT.sIx_nat]
          omega
        rw [c2]
        have s6 := same_new (H := upd (upd H3 q3 (.tup [z])) q5 (.tup (xs2.take i ++ [z]))) (o := .tup (xs2.drop (i + 1))) n6
        have s16 := s1.trans (s35.trans s6)
        have s06 := s0.trans s16
        have az6 := az.tm (TM.same (s4.trans (s5.trans s6)))
        have zz := (ax.tm (TM.same s16)).cut az6 (by omega)
        refine ⟨q5, q6, _, _, rfl, rfl, SqT.of (s6 _ _ upd_same), SqT.of upd_same, by simp, sl _ (by simp only [List.length_append, List.length_cons, List.length_nil, List.length_drop]; omega), fun z0 => ?_, fun _ q7 n7 => ?_⟩
        · refine q _ _ s06 ?_
          rw [eput, f4]
          refine .tup (s6 _ _ upd_same) ?_
          have e0 : xs2.take i ++ [z] ++ xs2.drop (i + 1) = xs2.take i ++ [z] := by rw [z0, List.append_nil]
          rw [e0] at zz
          exact zz
        · have s7 := same_new (H := upd (upd (upd H3 q3 (.tup [z])) q5 (.tup (xs2.take i ++ [z]))) q6 (.tup (xs2.drop (i + 1)))) (o := .tup (xs2.take i ++ [z] ++ xs2.drop (i + 1))) n7
          refine q _ _ (s06.trans s7) ?_
          rw [eput, f4]
          exact .tup upd_same (zz.tm (TM.same s7))
theorem ok_lput {f : Addr} {fd : FuncData} (F : Fun K "_law_put" "_law_put" sLPut f fd) (g : mg "_law_put" = some (.ref f)) (b : Binds K fd ["program", "path", "part"] []) :
    ∀ n : Nat, FnOk P w K mg base CX0 (n + 1) f fd ["program", "path", "part"] (spLPut n)
  | 0 => lput_turn F g b 0 (fun m e => by omega)
  | n + 1 => lput_turn F g b (n + 1) (fun m e => by
      have e2 : n = m := by omega
      subst e2
      exact ok_lput F g b n)
end
end K46

set_option Elab.async false
set_option linter.all false
set_option maxRecDepth 100000
set_option maxHeartbeats 4000000
/-! The law's places: all paths of a program, from the top, left to right. -/
namespace K46
open PySem PySem.Spec PyProof.Rows L2
abbrev sLPlaces : Stmt := topS 39
def paths : Pr → List (List Nat)
  | .thn a b => [] :: ((paths a).map (1 :: ·) ++ (paths b).map (2 :: ·))
  | .cho a b => [] :: ((paths a).map (1 :: ·) ++ (paths b).map (2 :: ·))
  | .loop a => [] :: (paths a).map (1 :: ·)
  | .ite _ a b => [] :: ((paths a).map (2 :: ·) ++ (paths b).map (3 :: ·))
  | .whl _ a => [] :: (paths a).map (2 :: ·)
  | .rep a _ => [] :: (paths a).map (1 :: ·)
  | _ => [[]]
def subP (p : Pr) (path : List Nat) : List (List Nat) := match atP p path with
  | some q => (paths q).map (path ++ ·)
  | none => []
theorem atP_snoc : ∀ (path : List Nat) (p q : Pr) (n : Nat), atP p path = some q → atP p (path ++ [n]) = kidAt q n
  | [], p, q, n, h => by
    cases (Option.some.inj h : p = q)
    show (match kidAt p n with | some k => some k | none => none) = _
    cases kidAt p n <;> rfl
  | i :: t, p, q, n, h => by
    have h' : (match kidAt p i with | some k => atP k t | none => none) = some q := h
    show (match kidAt p i with | some k => atP k (t ++ [n]) | none => none) = _
    cases hk : kidAt p i with
    | none =>
      rw [hk] at h'
      cases h'
    | some k =>
      rw [hk] at h'
      exact atP_snoc t k q n h'
theorem paths_places (q : Pr) : paths q = [] :: ((places q).map fun n => match kidAt q n with
    | some k => (paths k).map (n :: ·)
    | none => []).flatten := by
  cases q <;> simp [paths, places, kidAt]
theorem places_kidAt {q : Pr} {n : Nat} (h : n ∈ places q) : ∃ k, kidAt q n = some k := by
  cases q <;> simp [places] at h <;> (first | (rcases h with rfl | rfl) | subst h) <;> exact ⟨_, rfl⟩
theorem subP_turn {p q : Pr} {path : List Nat} (h : atP p path = some q) : subP p path = path :: ((places q).map fun n => subP p (path ++ [n])).flatten := by
  unfold subP
  rw [h]
  show (paths q).map (path ++ ·) = _
  rw [paths_places q, List.map_cons, List.append_nil, List.map_flatten, List.map_map]
  congr 2
  refine List.map_congr_left fun n hn => ?_
  obtain ⟨k, hk⟩ := places_kidAt hn
  show ((match kidAt q n with | some k => (paths k).map (n :: ·) | none => [])).map (path ++ ·) = _
  rw [atP_snoc path p q n h, hk]
  show ((paths k).map (n :: ·)).map (path ++ ·) = (paths k).map ((path ++ [n]) ++ ·)
  rw [List.map_map]
  refine List.map_congr_left fun t _ => ?_
  show path ++ (n :: t) = path ++ [n] ++ t
  rw [List.append_assoc]
  rfl
theorem subP_nil (p : Pr) : subP p [] = paths p := by
  show (paths p).map ([] ++ ·) = _
  simp
theorem paths_len : ∀ p : Pr, (paths p).length = nP p
  | .skip => rfl
  | .stop => rfl
  | .deed _ => rfl
  | .assume _ => rfl
  | .thn a b => by
    simp only [paths, nP, List.length_cons, List.length_append, List.length_map, paths_len a, paths_len b]
  | .cho a b => by
    simp only [paths, nP, List.length_cons, List.length_append, List.length_map, paths_len a, paths_len b]
  | .loop a => by simp only [paths, nP, List.length_cons, List.length_map, paths_len a]
  | .ite _ a b => by
    simp only [paths, nP, List.length_cons, List.length_append, List.length_map, paths_len a, paths_len b]
  | .whl _ a => by simp only [paths, nP, List.length_cons, List.length_map, paths_len a]
  | .rep a _ => by simp only [paths, nP, List.length_cons, List.length_map, paths_len a]
theorem paths_fine : ∀ (p : Pr) (t : List Nat), t ∈ paths p → (atP p t).isSome = true ∧ t.length + 1 ≤ hgt p
  | .skip, t, h => by simp [paths] at h; subst h; exact ⟨rfl, by simp [hgt]⟩
  | .stop, t, h => by simp [paths] at h; subst h; exact ⟨rfl, by simp [hgt]⟩
  | .deed _, t, h => by simp [paths] at h; subst h; exact ⟨rfl, by simp [hgt]⟩
  | .assume _, t, h => by simp [paths] at h; subst h; exact ⟨rfl, by simp [hgt]⟩
  | .thn a b, t, h => by
    simp [paths] at h
    rcases h with rfl | ⟨r, hr, rfl⟩ | ⟨r, hr, rfl⟩
    · exact ⟨rfl, by simp [hgt]⟩
    · have := paths_fine a r hr
      exact ⟨this.1, by simp only [hgt, List.length_cons]; omega⟩
    · have := paths_fine b r hr
      exact ⟨this.1, by simp only [hgt, List.length_cons]; omega⟩
  | .cho a b, t, h => by
    simp [paths] at h
    rcases h with rfl | ⟨r, hr, rfl⟩ | ⟨r, hr, rfl⟩
    · exact ⟨rfl, by simp [hgt]⟩
    · have := paths_fine a r hr
      exact ⟨this.1, by simp only [hgt, List.length_cons]; omega⟩
    · have := paths_fine b r hr
      exact ⟨this.1, by simp only [hgt, List.length_cons]; omega⟩
  | .loop a, t, h => by
    simp [paths] at h
    rcases h with rfl | ⟨r, hr, rfl⟩
    · exact ⟨rfl, by simp [hgt]⟩
    · have := paths_fine a r hr
      exact ⟨this.1, by simp only [hgt, List.length_cons]; omega⟩
  | .ite _ a b, t, h => by
    simp [paths] at h
    rcases h with rfl | ⟨r, hr, rfl⟩ | ⟨r, hr, rfl⟩
    · exact ⟨rfl, by simp [hgt]⟩
    · have := paths_fine a r hr
      exact ⟨this.1, by simp only [hgt, List.length_cons]; omega⟩
    · have := paths_fine b r hr
      exact ⟨this.1, by simp only [hgt, List.length_cons]; omega⟩
  | .whl _ a, t, h => by
    simp [paths] at h
    rcases h with rfl | ⟨r, hr, rfl⟩
    · exact ⟨rfl, by simp [hgt]⟩
    · have := paths_fine a r hr
      exact ⟨this.1, by simp only [hgt, List.length_cons]; omega⟩
  | .rep a _, t, h => by
    simp [paths] at h
    rcases h with rfl | ⟨r, hr, rfl⟩
    · exact ⟨rfl, by simp [hgt]⟩
    · have := paths_fine a r hr
      exact ⟨this.1, by simp only [hgt, List.length_cons]; omega⟩
theorem atP_size : ∀ (path : List Nat) (p q : Pr), atP p path = some q → path.length + nP q ≤ nP p
  | [], p, q, h => by
    cases (Option.some.inj h : p = q)
    simp
  | i :: t, p, q, h => by
    have h' : (match kidAt p i with | some k => atP k t | none => none) = some q := h
    cases hk : kidAt p i with
    | none =>
      rw [hk] at h'
      cases h'
    | some k =>
      rw [hk] at h'
      have ih := atP_size t k q h'
      obtain ⟨_, _, _, _, f5⟩ := kidAt_facts hk
      obtain ⟨j, hj⟩ := List.mem_iff_getElem?.mp f5
      have := size_kid hj
      rw [List.length_cons]
      omega
/-! ### lists of paths on the heap; none of the lists is one of xs -/
inductive PL (H0 H : Hp) (x : List Addr) : List (List Nat) → List V → Prop
  | nil : PL H0 H x [] []
  | cons {path : List Nat} {ps : List (List Nat)} {b : Addr} {us : List V} : H0 b = none → b ∉ x → H b = some (.lst (pathV path)) → PL H0 H x ps us → PL H0 H x (path :: ps) (.ref b :: us)
theorem PL.length {H0 H : Hp} {x : List Addr} : ∀ {ps : List (List Nat)} {us : List V}, PL H0 H x ps us → ps.length = us.length
  | _, _, .nil => rfl
  | _, _, .cons _ _ _ r => by rw [List.length_cons, List.length_cons, PL.length r]
theorem PL.keep {H0 H H' : Hp} {x y : List Addr} (k : ∀ b o, b ∉ x → H b = some o → H' b = some o) (h : ∀ b, b ∉ x → (H b).isSome = true → b ∉ y) : ∀ {ps : List (List Nat)} {us : List V}, PL H0 H x ps us → PL H0 H' y ps us
  | _, _, .nil => .nil
  | _, _, .cons z n e r => .cons z (h _ n (by rw [e]; rfl)) (k _ _ n e) (PL.keep k h r)
theorem PL.append {H0 H : Hp} {x : List Addr} : ∀ {ps qs : List (List Nat)} {us ws : List V}, PL H0 H x ps us → PL H0 H x qs ws → PL H0 H x (ps ++ qs) (us ++ ws)
  | _, _, _, _, .nil, s => s
  | _, _, _, _, .cons z n e r, s => .cons z n e (PL.append r s)
theorem PL.same {H0 H H' : Hp} {x : List Addr} (s : Same H H') {ps : List (List Nat)} {us : List V} (p : PL H0 H x ps us) : PL H0 H' x ps us := p.keep (fun b o _ e => s b o e) (fun _ n _ => n)
theorem PL.get {H0 H : Hp} {x : List Addr} : ∀ {ps : List (List Nat)} {us : List V} {i : Nat} {v : V}, PL H0 H x ps us → us[i]? = some v → ∃ path b, ps[i]? = some path ∧ v = .ref b ∧ H0 b = none ∧ b ∉ x ∧ H b = some (.lst (pathV path))
  | _, _, _, _, .nil, e => by simp at e
  | _, _, 0, _, .cons z n h r, e => by simp at e; subst e; exact ⟨_, _, rfl, rfl, z, n, h⟩
  | _, _, i + 1, v, .cons _ n h r, e => by
    obtain ⟨path, b, h1, h2⟩ := PL.get (i := i) (v := v) r (by simpa using e)
    exact ⟨path, b, by simpa using h1, h2⟩
theorem PL.dp {K : PySem.W.Frag} {H0 H : Hp} {x : List Addr} : ∀ {ps : List (List Nat)} {us : List V}, PL H0 H x ps us → DpAll K H us (ps.map fun path => .list (path.map fun n => PyData.int (n : Nat)))
  | _, _, .nil => .nil
  | _, _, .cons _ _ e r => .cons (.lst (SqL.of e) (ints_dp _)) (PL.dp r)
theorem pl_lay : ∀ ps : List (List Nat), PyData.canLayAll0 (ps.map fun path => .list (path.map fun n => PyData.int (n : Nat))) = true ∧ PyData.depthAll (ps.map fun path => .list (path.map fun n => PyData.int (n : Nat))) ≤ 1
  | [] => by simp [PyData.canLayAll0, PyData.depthAll]
  | x :: r => by
    have ih := pl_lay r
    have h := ints_lay x
    refine ⟨?_, ?_⟩
    · simp only [List.map_cons, PyData.canLayAll0, PyData.canLay0, h.1, ih.1, Bool.and_self]
    · simp only [List.map_cons, PyData.depthAll, PyData.depth, h.2]
      omega
theorem pl_shaped (ps : List (List Nat)) : SeqAt.shaped (.list (ps.map fun path => .list (path.map fun n => PyData.int (n : Nat)))) = true := by
  have h := pl_lay ps
  show (PyData.canLay0 (.list _) && decide (PyData.depth (.list _) ≤ 64)) = true
  rw [Bool.and_eq_true]
  refine ⟨by simp only [PyData.canLay0]; exact h.1, decide_eq_true ?_⟩
  simp only [PyData.depth]
  omega
theorem pl_eq_nil (ps : List (List Nat)) : PyData.eqv (.list (ps.map fun path => .list (path.map fun n => PyData.int (n : Nat)))) (.list []) = decide (ps = []) := by
  cases ps <;> simp [PyData.eqv, PyData.eqvAll]
section
variable {P : Program} {w : World} {K : PySem.W.Frag} {mg : Str → Option Value} {base : Heap}
def spLPlaces : Sp := fun vs H Q _ => ∃ (p : Pr) (v : V), vs = [v] ∧ At H (encP p) v ∧ nP p ≤ 60 ∧ ∀ H' l us, Same H H' → H l = none → H' l = some (.lst us) → PL H H' [] (paths p) us → Q (.ref l) H'
abbrev nsLPl : List Str := ["program", "found", "waiting", "path", "index"]
theorem scLPl : FnScope nsLPl ["program"] (defScope sLPlaces) := ⟨rfl, rfl, rfl, by decide +kernel, rfl, by decide +kernel, by decide +kernel⟩
theorem ok_lplaces {f fA fT : Addr} {fd fdA fdT : FuncData} (F : Fun K "_law_places" "_law_places" sLPlaces f fd)
    (GA : FnOk P w K mg base CX0 1 fA fdA ["program", "path"] spLAt) (kA : PySem.W.keepIn K (.ref fA) = true) (gA : mg "_law_at" = some (.ref fA)) (bA : Binds K fdA ["program", "path"] [])
    (GT : FnOk P w K mg base CX0 1 fT fdT ["program"] spLParts) (kT : PySem.W.keepIn K (.ref fT) = true) (gT : mg "_law_parts" = some (.ref fT)) (bT : Binds K fdT ["program"] []) : FnOk P w K mg base CX0 2 f fd ["program"] spLPlaces := by
  refine F.ok scLPl (fun vs H Q E h => ?_) (fun cdv A outer s H vs Q E hr h => ?_)
  · obtain ⟨p, v, rfl, _⟩ := h
    rfl
  · obtain ⟨p, v, rfl, hd, hz, q⟩ := h
    refine ⟨_, pss_cons (ps_par (i := 1) (j := 2) rfl scLPl.nd rfl rfl (by decide) rfl rfl (pa_cons (pe_lst pa_nil) (pa_cons (pe_lst (pa_cons (pe_lst pa_nil) pa_nil)) pa_nil)) (by rfl))
      (pss_cons (ps_while PassesOwn.never (pt_cmpR (op_neD hr.units) (pv 2) (pe_lst pa_nil) (nomark _))
        (pss_cons (ps_set (i := 3) scLPl.nd rfl (.inr rfl) (pe_bm PySem.F.plainAttrs_list PySem.F.slot_list_pop PySem.F.type_list_pop mt_popAt (pv 2) (pa_cons pe_int pa_nil)))
        (pss_cons (ps_expr (pe_bm PySem.F.plainAttrs_list PySem.F.slot_list_append PySem.F.type_list_append mt_append (pv 1) (pa_cons (pv 3) pa_nil)))
        (pss_one (ps_set (i := 2) scLPl.nd rfl (.inl rfl) (pe_op op_cat
          (pe_lc (own := [("index", 4)]) (g := gName 4) (tt := tYes) (te := tOp rCat (tVar 3) (tLst (tCons (tVar 4) tNil))) rfl scLPl.nd
            (pi_list (pe_call GT hr (by rfl) gT kT bT .nil pass0 (pa_cons (pe_call GA hr (by rfl) gA kA bA .nil pass0 (pa_cons (pv 0) (pa_cons (pv 3) pa_nil))) pa_nil))) (blkOk_by (N := nsLPl) (sc := defScope sLPlaces) (by decide +kernel)) (fun _ _ _ _ _ => pg_name (i := 4) scLPl.nd rfl (Or.inl rfl))
            (fun _ _ _ _ _ => pts_nil) (fun _ _ _ _ _ => pe_op op_cat (pv 3) (pe_lst (pa_cons (pv 4) pa_nil)))) (pv 2)))))))
      (pss_one (ps_ret (pv 1)))), ?_⟩
    have sl : ∀ n : Nat, n ≤ 1000 → n ≤ sizeLine := fun n h => Nat.le_of_lt (small1000 h)
    refine ⟨sl 0 (by decide), fun lf nf => ⟨sl 0 (by decide), fun b0 nb => ⟨sl 1 (by decide), fun lw nw => ?_⟩⟩⟩
    refine ⟨_, _, rfl, ?_⟩
    have s0 := same_new (H := H) (o := .lst []) nf
    have s1 := same_new (H := upd H lf (.lst [])) (o := .lst []) nb
    have s2 := same_new (H := upd (upd H lf (.lst [])) b0 (.lst [])) (o := .lst [.ref b0]) nw
    have s02 := s0.trans (s1.trans s2)
    have ef := (s1.trans s2) _ _ upd_same
    have eb := s2 _ _ upd_same
    have nbf : b0 ≠ lf := fun z => by
      rw [z, upd_same] at nb
      cases nb
    have nwf : lw ≠ lf := fun z => by
      have := s1 _ _ (upd_same (H := H) (a := lf) (o := .lst []))
      rw [z, this] at nw
      cases nw
    have nbw : b0 ≠ lw := fun z => by
      rw [← z, upd_same] at nw
      cases nw
    refine ⟨fun m σ H' => ∃ (lf lw : Addr) (fs ws : List (List Nat)) (fus wus : List V) (x3 x4 : Option V), σ = [some v, some (.ref lf), some (.ref lw), x3, x4] ∧ m = ((ws.map (subP p)).flatten).length ∧ Same H H' ∧ H lf = none ∧ H lw = none ∧ lw ≠ lf ∧ H' lf = some (.lst fus) ∧ H' lw = some (.lst wus) ∧
        PL H H' [lf, lw] fs fus ∧ PL H H' [lf, lw] ws wus ∧ (∀ path ∈ ws, (atP p path).isSome = true) ∧ fs ++ (ws.map (subP p)).flatten = paths p,
      ⟨_, lf, lw, [], [[]], [], [.ref b0], none, none, rfl, rfl, s02, nf, s0.free (s1.free nw), nwf, ef, upd_same, .nil, .cons (s0.free nb) (by simp [nbf, nbw]) eb .nil, fun path hp => by simp at hp; subst hp; rfl, by simp [subP_nil]⟩, ?_⟩
    clear nbw nwf nbf eb ef s02 s2 s1 s0 nw nb nf
    clear lf b0 lw
    rintro m σ H1 ⟨lf, lw, fs, ws, fus, wus, x3, x4, rfl, rfl, s1, nf, nw, nwf, ef, ew, pf, pw, hat, etot⟩
    refine ⟨_, rfl, sl 0 (by decide), fun e ne => ?_⟩
    have se := same_new (H := H1) (o := .lst []) ne
    refine ⟨_, _, .lst (SqL.of (se _ _ ew)) ((pw.same se).dp), .lst (SqL.of upd_same) .nil, pl_shaped ws, rfl, _, rfl, ?_⟩
    rw [pl_eq_nil]
    generalize upd H1 e (.lst []) = H2 at se
    have s2 := s1.trans se
    have pf2 := pf.same se
    have pw2 := pw.same se
    have ef2 := se _ _ ef
    have ew2 := se _ _ ew
    cases ws with
    | nil =>
      refine ifF rfl ?_
      simp at etot
      subst etot
      exact ⟨_, rfl, q H2 lf fus s2 nf ef2 (pf2.keep (fun _ _ _ e => e) (fun _ _ _ => by simp))⟩
    | cons path ws =>
      refine ifT rfl ?_
      obtain ⟨qq, hqq⟩ := Option.isSome_iff_exists.mp (hat path List.mem_cons_self)
      have turn := subP_turn hqq
      have plen := congrArg List.length etot
      rw [paths_len, List.length_append] at plen
      have lfs := pf2.length
      have lws := pw2.length
      have etot2 : (fs ++ [path]) ++ ((((places qq).map fun n => path ++ [n]) ++ ws).map (subP p)).flatten = paths p := by
        rw [← etot, List.map_cons, List.flatten_cons, turn, List.map_append, List.flatten_append, List.map_map, List.append_assoc]
        rfl
      have mdec : (((((places qq).map fun n => path ++ [n]) ++ ws).map (subP p)).flatten).length < (((path :: ws).map (subP p)).flatten).length := by
        have a1 := congrArg List.length etot
        have a2 := congrArg List.length etot2
        rw [List.length_append] at a1 a2
        rw [List.length_append, List.length_singleton] at a2
        omega
      have hat2 : ∀ t ∈ ((places qq).map fun n => path ++ [n]) ++ ws, (atP p t).isSome = true := fun t ht => by
        rcases List.mem_append.mp ht with ht | ht
        · obtain ⟨n, hn, rfl⟩ := List.mem_map.mp ht
          obtain ⟨k, hk⟩ := places_kidAt hn
          rw [atP_snoc path p qq n hqq, hk]
          rfl
        · exact hat t (List.mem_cons_of_mem _ ht)
      have lws60 : ws.length ≤ 60 := by
        have b1 : ∀ l : List (List Nat), (∀ t ∈ l, (atP p t).isSome = true) → l.length ≤ ((l.map (subP p)).flatten).length := fun l => by
          induction l with
          | nil => intro _; simp
          | cons t r ih =>
            intro h
            obtain ⟨q2, h2⟩ := Option.isSome_iff_exists.mp (h t List.mem_cons_self)
            have := ih fun x hx => h x (List.mem_cons_of_mem _ hx)
            rw [List.map_cons, List.flatten_cons, List.length_append, subP_turn h2, List.length_cons, List.length_cons]
            omega
        have := b1 ws fun t ht => hat t (List.mem_cons_of_mem _ ht)
        rw [List.map_cons, List.flatten_cons, List.length_append] at plen
        omega
      cases pw2 with
      | @cons _ _ b wus zb nb hb pw3 =>
      refine ⟨fun σ' H' => ∃ (lf lw : Addr) (fs' ws' : List (List Nat)) (fus wus : List V) (x3 x4 : Option V), σ' = [some v, some (.ref lf), some (.ref lw), x3, x4] ∧ ((ws'.map (subP p)).flatten).length < (((path :: ws).map (subP p)).flatten).length ∧ Same H H' ∧ H lf = none ∧ H lw = none ∧ lw ≠ lf ∧ H' lf = some (.lst fus) ∧ H' lw = some (.lst wus) ∧
        PL H H' [lf, lw] fs' fus ∧ PL H H' [lf, lw] ws' wus ∧ (∀ path ∈ ws', (atP p path).isSome = true) ∧ fs' ++ (ws'.map (subP p)).flatten = paths p, ?_, ?_⟩
      · rintro σ' H' ⟨lf, lw, fs', ws', fus, wus, x3, x4, r1, r2, r3⟩
        exact ⟨_, r2, lf, lw, fs', ws', fus, wus, x3, x4, r1, rfl, r3⟩
      have hplen := atP_size path p qq hqq
      -- path = waiting.pop(0)
      refine ⟨.ref lw, rfl, .inl ⟨rfl, _, SqL.of ew2⟩, lw, _, 0, 0, .ref b, rfl, rfl, ew2, by decide, by decide, by simp [seqIndex?], rfl, ?_⟩
      have s3 : Same H (upd H2 lw (.lst wus)) := same_mut s2 nw
      have ew3 : (upd H2 lw (.lst wus)) lw = some (.lst wus) := upd_same
      have k3 : ∀ c o, c ≠ lw → H2 c = some o → (upd H2 lw (.lst wus)) c = some o := fun c o n h => by rw [upd_ne n]; exact h
      have nb1 : b ≠ lf := fun z => nb (by simp [z])
      have nb2 : b ≠ lw := fun z => nb (by simp [z])
      have ef3 := k3 _ _ nwf.symm ef2
      have hb3 := k3 _ _ nb2 hb
      have pf3 : PL H (upd H2 lw (.lst wus)) [lf, lw] fs fus := pf2.keep (fun c o n h => k3 c o (fun z => n (by simp [z])) h) (fun _ n _ => n)
      have pw3' : PL H (upd H2 lw (.lst wus)) [lf, lw] ws wus := pw3.keep (fun c o n h => k3 c o (fun z => n (by simp [z])) h) (fun _ n _ => n)
      have er : (V.ref b :: wus).eraseIdx 0 = wus := rfl
      rw [er]
      generalize upd H2 lw (.lst wus) = H3 at s3 ew3 ef3 hb3 pf3 pw3'
      -- found.append(path)
      have lfs2 : fs.length ≤ 60 := by omega
      refine ⟨.ref lf, rfl, .inl ⟨rfl, _, SqL.of ef3⟩, _, rfl, lf, fus, .ref b, rfl, rfl, ef3, small1000 (by omega), ?_⟩
      have s4 : Same H (upd H3 lf (.lst (fus ++ [.ref b]))) := same_mut s3 nf
      have ef4 : (upd H3 lf (.lst (fus ++ [.ref b]))) lf = some (.lst (fus ++ [.ref b])) := upd_same
      have k4 : ∀ c o, c ≠ lf → H3 c = some o → (upd H3 lf (.lst (fus ++ [.ref b]))) c = some o := fun c o n h => by rw [upd_ne n]; exact h
      have ew4 := k4 _ _ nwf ew3
      have hb4 := k4 _ _ nb1 hb3
      have pf4 : PL H (upd H3 lf (.lst (fus ++ [.ref b]))) [lf, lw] (fs ++ [path]) (fus ++ [.ref b]) := (pf3.keep (fun c o n h => k4 c o (fun z => n (by simp [z])) h) (fun _ n _ => n)).append (.cons zb nb hb4 .nil)
      have pw4 : PL H (upd H3 lf (.lst (fus ++ [.ref b]))) [lf, lw] ws wus := pw3'.keep (fun c o n h => k4 c o (fun z => n (by simp [z])) h) (fun _ n _ => n)
      generalize upd H3 lf (.lst (fus ++ [.ref b])) = H4 at s4 ef4 ew4 hb4 pf4 pw4
      -- the parts' paths
      refine ⟨_, rfl, _, rfl, p, qq, v, b, path, rfl, hd.tm (TM.same s4), hb4, hqq, fun u au => ?_⟩
      refine ⟨qq, u, rfl, au, fun H5 l5 s5 e5 => ⟨l5, rfl, ⟨_, SqL.of e5⟩, fun D1 nD1 => ?_⟩⟩
      have pq4 : (places qq).length ≤ 2 := by cases qq <;> simp [places]
      refine lc_list (K := K) (a := l5) (xs := (places qq).map fun n => V.int (n : Nat)) (fun i H' => Same H5 H' ∧ ∃ bs : List V, H' D1 = some (.lst bs) ∧ PL H H' [lf, lw, D1] (((places qq).take i).map fun n => path ++ [n]) bs) ⟨same_new nD1, [], upd_same, .nil⟩ (fun i H' _ ⟨sm, _⟩ => SqL.of (sm _ _ e5)) ?_ ?_
      · rintro i x H6 hx ⟨s6, bs, hD, hbs⟩
        obtain ⟨n, hn, rfl⟩ : ∃ n, (places qq)[i]? = some n ∧ x = V.int (n : Nat) := by
          rw [List.getElem?_map] at hx
          cases e : (places qq)[i]? with
          | none => rw [e] at hx; cases hx
          | some z => rw [e] at hx; exact ⟨z, rfl, (Option.some.inj hx).symm⟩
        have lbs := hbs.length
        rw [List.length_map, List.length_take] at lbs
        refine ⟨rfl, ?_⟩
        refine ⟨_, rfl, _, rfl, sl 1 (by decide), fun l6 n6 => ?_⟩
        have s7 := same_new (H := H6) (o := .lst [.int n]) n6
        have hb6 := s6 _ _ (s5 _ _ hb4)
        refine ⟨b, l6, _, _, rfl, rfl, s7 _ _ hb6, upd_same, sl _ (by rw [List.length_map]; simp; omega), fun l7 n7 => ?_⟩
        have s8 := same_new (H := upd H6 l6 (.lst [.int n])) (o := .lst (pathV path ++ [.int n])) n7
        have s78 := s7.trans s8
        refine ⟨bs, s78 _ _ hD, small1000 (by omega), same_mut (s6.trans s78) nD1, _, upd_same, ?_⟩
        have n7D : l7 ≠ D1 := fun z => by
          have := s7 _ _ hD
          rw [← z, n7] at this
          cases this
        have n7f : l7 ≠ lf := fun z => by
          have := s7 _ _ (s6 _ _ (s5 _ _ ef4))
          rw [← z, n7] at this
          cases this
        have n7w : l7 ≠ lw := fun z => by
          have := s7 _ _ (s6 _ _ (s5 _ _ ew4))
          rw [← z, n7] at this
          cases this
        rw [take_more hn, List.map_append]
        refine ((hbs.same s78).keep (fun c o nc h => ?_) (fun _ n _ => n)).append (.cons (s4.free (s5.free (s6.free (s7.free n7)))) (by simp [n7D, n7f, n7w]) ?_ .nil)
        · rw [upd_ne (fun z => nc (by simp [z]))]
          exact h
        · rw [upd_ne n7D]
          have := upd_same (H := upd H6 l6 (.lst [.int n])) (a := l7) (o := .lst (pathV path ++ [.int n]))
          rw [this]
          show _ = some (HO.lst (pathV (path ++ [n])))
          unfold pathV
          rw [List.map_append]
          rfl
      · rintro H6 ⟨s6, bs, hD, hbs⟩
        rw [show (places qq).take ((places qq).map fun n => V.int (n : Nat)).length = places qq from List.take_of_length_le (by rw [List.length_map]; exact Nat.le_refl _)] at hbs
        have lbs := hbs.length
        rw [List.length_map] at lbs
        have s46 := s5.trans s6
        have ew6 := s46 _ _ ew4
        have ef6 := s46 _ _ ef4
        have lwl : wus.length ≤ 60 := by
          have := pw4.length
          omega
        refine ⟨_, rfl, D1, lw, bs, wus, rfl, rfl, hD, ew6, sl _ (by omega), fun l9 n9 => ?_⟩
        have s9 := same_new (H := H6) (o := .lst (bs ++ wus)) n9
        have s49 := s46.trans s9
        have n9f : l9 ≠ lf := fun z => by
          rw [z, ef6] at n9
          cases n9
        have nH9 : H l9 = none := s4.free (s46.free n9)
        have y1 : ∀ c, c ∉ [lf, lw] → (H4 c).isSome = true → c ∉ [lf, l9] := fun c n h z => by
          simp at z n
          rcases z with z | z
          · exact n.1 z
          · rw [z, s46.free n9] at h
            cases h
        have y2 : ∀ c, c ∉ [lf, lw, D1] → (H6 c).isSome = true → c ∉ [lf, l9] := fun c n h z => by
          simp at z n
          rcases z with z | z
          · exact n.1 z
          · rw [z, n9] at h
            cases h
        exact ⟨lf, l9, fs ++ [path], ((places qq).map fun n => path ++ [n]) ++ ws, _, bs ++ wus, _, _, rfl, mdec, s4.trans s49, nf, nH9, n9f, s49 _ _ ef4, upd_same, pf4.keep (fun c o _ h => s49 _ _ h) y1,
          (hbs.keep (fun c o _ h => s9 _ _ h) y2).append (pw4.keep (fun c o _ h => s49 _ _ h) y1), hat2, etot2⟩
end
end K46

set_option Elab.async false
set_option linter.all false
set_option maxRecDepth 100000
set_option maxHeartbeats 8000000
/-! The law's changes. -/
namespace K46
open PySem PySem.Spec PyProof.Rows L2
abbrev sLChanges : Stmt := topS 40
def cA (p : Pr) (path : List Nat) : List Pr := match atP p path with
  | some q => (here q).map (putAt p path)
  | none => []
theorem cA_kid {p k : Pr} {n : Nat} (h : kidAt p n = some k) (l : List (List Nat)) : ((l.map (n :: ·)).map (cA p)).flatten = ((l.map (cA k)).flatten).map (setAt p n) := by
  rw [List.map_flatten, List.map_map, List.map_map]
  congr 1
  refine List.map_congr_left fun t _ => ?_
  show cA p (n :: t) = (cA k t).map (setAt p n)
  have e : atP p (n :: t) = atP k t := by
    show (match kidAt p n with | some k => atP k t | none => none) = _
    rw [h]
  unfold cA
  rw [e]
  cases atP k t with
  | none => rfl
  | some q =>
    show (here q).map (putAt p (n :: t)) = ((here q).map (putAt k t)).map (setAt p n)
    rw [List.map_map]
    refine List.map_congr_left fun r _ => ?_
    show (match kidAt p n with | some k => setAt p n (putAt k t r) | none => p) = setAt p n (putAt k t r)
    rw [h]
theorem cA_top (p : Pr) : cA p [] = here p := by
  show (here p).map (putAt p []) = here p
  have : (putAt p [] : Pr → Pr) = id := by
    funext r
    cases p <;> rfl
  rw [this, List.map_id]
theorem paths_changes : ∀ p : Pr, ((paths p).map (cA p)).flatten = allCh p
  | .skip => by simp [paths, cA_top, allCh]
  | .stop => by simp [paths, cA_top, allCh]
  | .deed s => by simp [paths, cA_top, allCh]
  | .assume t => by simp [paths, cA_top, allCh]
  | .thn a b => by
    rw [paths, List.map_cons, List.flatten_cons, cA_top, List.map_append, List.flatten_append, cA_kid (k := a) rfl, cA_kid (k := b) rfl, paths_changes a, paths_changes b]
    rfl
  | .cho a b => by
    rw [paths, List.map_cons, List.flatten_cons, cA_top, List.map_append, List.flatten_append, cA_kid (k := a) rfl, cA_kid (k := b) rfl, paths_changes a, paths_changes b]
    rfl
  | .loop a => by
    rw [paths, List.map_cons, List.flatten_cons, cA_top, cA_kid (k := a) rfl, paths_changes a]
    rfl
  | .ite t a b => by
    rw [paths, List.map_cons, List.flatten_cons, cA_top, List.map_append, List.flatten_append, cA_kid (k := a) rfl, cA_kid (k := b) rfl, paths_changes a, paths_changes b]
    rfl
  | .whl t a => by
    rw [paths, List.map_cons, List.flatten_cons, cA_top, cA_kid (k := a) rfl, paths_changes a]
    rfl
  | .rep a t => by
    rw [paths, List.map_cons, List.flatten_cons, cA_top, cA_kid (k := a) rfl, paths_changes a]
    rfl
theorem stepL_mem {p r x : Pr} {acc : List Pr} (h : x ∈ stepL p acc r) : x ∈ acc ∨ x = r := by
  unfold stepL putP at h
  split at h
  · split at h
    · exact .inl h
    · rcases List.mem_append.mp h with h | h
      · exact .inl h
      · exact .inr (by simpa using h)
  · exact .inl h
theorem foldL_mem {p x : Pr} : ∀ {l acc : List Pr}, x ∈ l.foldl (stepL p) acc → x ∈ acc ∨ x ∈ l
  | [], acc, h => .inl h
  | r :: l, acc, h => by
    rcases foldL_mem (l := l) h with h | h
    · rcases stepL_mem h with h | h
      · exact .inl h
      · exact .inr (by rw [h]; exact List.mem_cons_self)
    · exact .inr (List.mem_cons_of_mem _ h)
theorem lighterP_mem {p x : Pr} {l : List Pr} (h : x ∈ lighterP p l) : x ∈ l := by
  rcases foldL_mem h with h | h
  · cases h
  · exact h
theorem lighterP_append (p : Pr) (a b : List Pr) : lighterP p (a ++ b) = b.foldl (stepL p) (lighterP p a) := by
  unfold lighterP
  rw [List.foldl_append]
theorem lighterP_le (p : Pr) (l : List Pr) : (lighterP p l).length ≤ l.length := by
  have := lighterP_len p l l.length (Nat.le_refl _)
  rw [List.take_length] at this
  exact this
theorem any_enc (r : Pr) : ∀ acc : List Pr, (NestedKey.datas (acc.map encP)).any (fun z => PyData.eqv z (encP r).data) = decide (r ∈ acc)
  | [] => by simp [NestedKey.datas]
  | a :: l => by
    have ih := any_enc r l
    simp only [List.map_cons, NestedKey.datas, List.any_cons, ih, eqv_data]
    by_cases c : r = a
    · subst c
      simp
    · have c' : ¬ encP a = encP r := fun z => c (encP_inj _ _ z).symm
      simp [c, c']
theorem But.tm2 {a : Addr} {H H' : Hp} {xs : List V} (h : H a = some (.lst xs)) (b : But a H H') : TM H H' := fun c ys e => b c _ (fun z => by rw [z, h] at e; cases e) e
theorem tpl_head (p : Pr) : ∃ h r, encP p = .tup (.text h :: r) ∧ valV (mergeK [] [((Sum.inr "assume" : Key), V.int 1), (Sum.inr "if", .int 1), (Sum.inr "while", .int 1), (Sum.inr "repeat", .int 2)]) (Sum.inr h : Key) = (tplace p).map fun n => V.int (n : Nat) := by
  cases p <;> exact ⟨_, _, rfl, by kernel_rfl⟩
theorem putTE_read {K : PySem.W.Frag} {σ : L2.St} {H : Hp} {Q : VK} {d e : D} {v u : V} {i : Nat} (h4 : σ[4]? = some (some v)) (h6 : σ[6]? = some (some (.int i))) (h10 : σ[10]? = some (some u)) (hd : At H d v) (he : At H e u) (h1 : 1 ≤ i) (hi : i < (items d).length) (hl : (items d).length ≤ 900)
    (q : ∀ H' z, Same H H' → At H' (setD d i e) z → Q z H') :
    (tOp (rCatT K) (tOp (rCatT K) (tSl (rSlT K) (tVar 4) tNoPart (tPart (tVar 6))) (tTup (tCons (tVar 10) tNil))) (tSl (rSlT K) (tVar 4) (tPart (tOp (rI0 fun i j => V.int (i + j)) (tVar 6) (tC (.int 1)))) tNoPart)) σ H Q := by
  obtain ⟨p, xs, rfl, hp, ax⟩ := AtAll.inv_tup hd (by omega)
  have lx := ax.length
  have sl : ∀ n : Nat, n ≤ 1000 → n ≤ sizeLine := fun n h => Nat.le_of_lt (small1000 h)
  have c1 : cutV xs none (some (i : Int)) = xs.take i := by
    unfold cutV
    rw [HT.sIx_none, HT.sIx_nat, List.drop_zero, Nat.sub_zero, Nat.min_eq_left (by omega)]
  have c2 : cutV xs (some ((i : Int) + 1)) none = xs.drop (i + 1) := by
    unfold cutV
    rw [show ((i : Int) + 1) = ((i + 1 : Nat) : Int) by omega, HT.sIx_none, HT.sIx_nat, Nat.min_eq_left (by omega)]
    exact List.take_of_length_le (by rw [List.length_drop]; omega)
  refine ⟨_, h4, _, h6, _, rfl, p, xs, rfl, SqT.of hp, ?_, fun q1 n1 => ?_⟩
  · rw [HT.sIx_none, HT.sIx_nat, Nat.min_eq_left (by omega)]
    omega
  rw [c1]
  have s1 : Same H (upd H q1 (.tup (xs.take i))) := same_new n1
  refine ⟨_, h10, sl 1 (by decide), fun q2 n2 => ?_⟩
  have s2 : Same (upd H q1 (.tup (xs.take i))) (upd (upd H q1 (.tup (xs.take i))) q2 (.tup [u])) := same_new n2
  have lt1 : (xs.take i).length = i := by rw [List.length_take]; omega
  refine ⟨q1, q2, _, [u], rfl, rfl, SqT.of (s2 _ _ upd_same), SqT.of upd_same, fun z => ?_, sl _ (by simp only [List.length_cons, List.length_nil]; omega), fun z => (nomatch z), fun _ q3 n3 => ?_⟩
  · rw [z] at lt1
    simp at lt1
    omega
  have s3 := same_new (H := upd (upd H q1 (.tup (xs.take i))) q2 (.tup [u])) (o := .tup (xs.take i ++ [u])) n3
  have s13 := s1.trans (s2.trans s3)
  refine ⟨_, h4, _, h6, _, _, rfl, rfl, _, rfl, p, xs, rfl, SqT.of (s13 _ _ hp), ?_, fun q4 n4 => ?_⟩
  · rw [show ((i : Int) + 1) = ((i + 1 : Nat) : Int) by omega, HT.sIx_nat]
    omega
  rw [c2]
  have s4 := same_new (H := upd (upd (upd H q1 (.tup (xs.take i))) q2 (.tup [u])) q3 (.tup (xs.take i ++ [u]))) (o := .tup (xs.drop (i + 1))) n4
  have s14 := s13.trans s4
  refine ⟨q3, q4, _, _, rfl, rfl, SqT.of (s4 _ _ upd_same), SqT.of upd_same, by simp, sl _ (by simp only [List.length_append, List.length_cons, List.length_nil, List.length_drop]; omega), fun z => ?_, fun _ q5 n5 => ?_⟩
  · refine q _ _ s14 (.tup (s4 _ _ upd_same) ?_)
    have zz := (ax.tm (TM.same s14)).cut (he.tm (TM.same s14)) hi
    have e0 : xs.take i ++ [u] ++ xs.drop (i + 1) = xs.take i ++ [u] := by rw [z, List.append_nil]
    rw [e0] at zz
    exact zz
  · have s5 := same_new (H := upd (upd (upd (upd H q1 (.tup (xs.take i))) q2 (.tup [u])) q3 (.tup (xs.take i ++ [u]))) q4 (.tup (xs.drop (i + 1)))) (o := .tup (xs.take i ++ [u] ++ xs.drop (i + 1))) n5
    have s15 := s14.trans s5
    exact q _ _ s15 (.tup upd_same ((ax.tm (TM.same s15)).cut (he.tm (TM.same s15)) hi))
theorem kids_places (q : Pr) : (kidsP q).length = (places q).length := by cases q <;> rfl
section
variable {P : Program} {w : World} {K : PySem.W.Frag} {mg : Str → Option Value} {base : Heap}
def spLChanges : Sp := fun vs H Q _ => ∃ (p : Pr) (v : V), vs = [v] ∧ At H (encP p) v ∧ Sml p ∧ NewL H Q (lightCh p)
abbrev nsLC : List Str := ["program", "found", "heavy", "path", "here", "some", "place", "part", "new", "index", "test"]
theorem scLC : FnScope nsLC ["program"] (defScope sLChanges) := ⟨rfl, rfl, rfl, by decide +kernel, rfl, by decide +kernel, by decide +kernel⟩
theorem ok_lchanges {f fW fP fA fT fU : Addr} {fd fdW fdP fdA fdT fdU : FuncData} (F : Fun K "_law_changes" "_law_changes" sLChanges f fd)
    (GW : FnOk P w K mg base CX0 1 fW fdW ["program"] spLWeight) (kW : PySem.W.keepIn K (.ref fW) = true) (gW : mg "_law_weight" = some (.ref fW)) (bW : Binds K fdW ["program"] [])
    (GP : FnOk P w K mg base CX0 2 fP fdP ["program"] spLPlaces) (kP : PySem.W.keepIn K (.ref fP) = true) (gP : mg "_law_places" = some (.ref fP)) (bP : Binds K fdP ["program"] [])
    (GA : FnOk P w K mg base CX0 1 fA fdA ["program", "path"] spLAt) (kA : PySem.W.keepIn K (.ref fA) = true) (gA : mg "_law_at" = some (.ref fA)) (bA : Binds K fdA ["program", "path"] [])
    (GT : FnOk P w K mg base CX0 1 fT fdT ["program"] spLParts) (kT : PySem.W.keepIn K (.ref fT) = true) (gT : mg "_law_parts" = some (.ref fT)) (bT : Binds K fdT ["program"] [])
    (GU : FnOk P w K mg base CX0 7 fU fdU ["program", "path", "part"] (spLPut 6)) (kU : PySem.W.keepIn K (.ref fU) = true) (gU : mg "_law_put" = some (.ref fU)) (bU : Binds K fdU ["program", "path", "part"] []) : FnOk P w K mg base CX0 8 f fd ["program"] spLChanges := by
  refine F.ok scLC (fun vs H Q E h => ?_) (fun cdv A outer s H vs Q E hr h => ?_)
  · obtain ⟨p, v, rfl, _⟩ := h
    rfl
  · obtain ⟨p, v, rfl, hd, hp, q⟩ := h
    have hr1 := hr.mono (show 1 ≤ 7 by decide)
    have hr2 := hr.mono (show 2 ≤ 7 by decide)
    have hu : (A.deeper (envOfC "_law_changes" (defScope sLChanges) s.heap.objs.size f cdv)).units + 65 < cLine := by
      have := hr.un
      omega
    refine ⟨_, pss_cons (ps_par (i := 1) (j := 2) rfl scLC.nd rfl rfl (by decide) rfl rfl (pa_cons (pe_lst pa_nil) (pa_cons (pe_call GW hr1 (by rfl) gW kW bW .nil pass0 (pa_cons (pv 0) pa_nil)) pa_nil)) (by rfl))
      (pss_cons (ps_for PassesOwn.never rfl (pi_list (pe_call GP hr2 (by rfl) gP kP bP .nil pass0 (pa_cons (pv 0) pa_nil))) (pg_name (i := 3) scLC.nd rfl (.inl rfl))
        (pss_cons (ps_set (i := 4) scLC.nd rfl (.inr rfl) (pe_call GA hr1 (by rfl) gA kA bA .nil pass0 (pa_cons (pv 0) (pa_cons (pv 3) pa_nil))))
        (pss_cons (ps_cut (ps_set (i := 5) scLC.nd rfl (.inl rfl) (pe_op op_cat (pe_lst (pa_cons (pe_tup (pa_cons pe_str pa_nil)) (pa_cons (pe_tup (pa_cons pe_str pa_nil)) pa_nil)))
          (pe_lc (own := [("index", 9)]) (g := gName 9) (tt := tYes) (te := tOp (rIxT K) (tVar 4) (tVar 9)) rfl scLC.nd
            (pi_list (pe_call GT hr1 (by rfl) gT kT bT .nil pass0 (pa_cons (pv 4) pa_nil))) (blkOk_by (N := nsLC) (sc := defScope sLChanges) (by decide +kernel)) (fun _ _ _ _ _ => pg_name (i := 9) scLC.nd rfl (Or.inl rfl))
            (fun _ _ _ _ _ => pts_nil) (fun _ _ _ _ _ => pe_ix ix_tup (pv 4) (pv 9) (fun _ _ => rfl))))))
        (pss_cons (ps_cut (ps_set (i := 6) scLC.nd rfl (.inr rfl) (pe_dget2 (hu_of hr) (pe_disp (pps_cons pe_str pe_int (pps_cons pe_str pe_int (pps_cons pe_str pe_int (pps_cons pe_str pe_int pps_nil)))) (by rfl) (by rfl) (fun z => by cases z) (by decide)) (pe_ix ix_tup (pv 4) pe_int (fun _ _ => rfl)) pe_non ⟨rfl, rfl, rfl, rfl⟩)))
        (pss_cons (ps_cut (ps_if (pt_cmp (pc_notN (pv 6)))
          (pss_one (ps_set (i := 5) scLC.nd rfl (.inl rfl) (pe_op op_cat (pv 5)
            (pe_lc (own := [("test", 10)]) (g := gName 10) (tt := tYes) (te := tOp (rCatT K) (tOp (rCatT K) (tSl (rSlT K) (tVar 4) tNoPart (tPart (tVar 6))) (tTup (tCons (tVar 10) tNil))) (tSl (rSlT K) (tVar 4) (tPart (tOp (rI0 fun i j => V.int (i + j)) (tVar 6) (tC (.int 1)))) tNoPart)) rfl scLC.nd
              (pi_list (pe_lst (pa_cons (pe_tup (pa_cons pe_str pa_nil)) (pa_cons (pe_tup (pa_cons pe_str pa_nil)) pa_nil)))) (blkOk_by (N := nsLC) (sc := defScope sLChanges) (by decide +kernel)) (fun _ _ _ _ _ => pg_name (i := 10) scLC.nd rfl (Or.inl rfl))
              (fun _ _ _ _ _ => pts_nil) (fun _ _ _ _ _ => pe_op op_catT (pe_op op_catT (pe_slice sl_tup (pv 4) po_none (po_some (pv 6))) (pe_tup (pa_cons (pv 10) pa_nil))) (pe_slice sl_tup (pv 4) (po_some (pe_op op_add (pv 6) pe_int)) po_none)))))) pss_nil))
        (pss_one (ps_for PassesOwn.never rfl (pi_list (pv 5)) (pg_name (i := 7) scLC.nd rfl (.inl rfl))
          (pss_cons (ps_set (i := 8) scLC.nd rfl (.inl rfl) (pe_call GU hr (by rfl) gU kU bU .nil pass0 (pa_cons (pv 0) (pa_cons (pv 3) (pa_cons (pv 7) pa_nil)))))
          (pss_one (ps_if (PW.pt (pw_and (pt_cmpR (op_ltT hr.units0) (pe_call GW hr1 (by rfl) gW kW bW .nil pass0 (pa_cons (pv 8) pa_nil)) (pv 2) (nomark _)) (pw_and1 (pt_cmpR (op_notInD hu) (pv 8) (pv 1) (by rfl)))))
            (pss_one (ps_expr (pe_bm PySem.F.plainAttrs_list PySem.F.slot_list_append PySem.F.type_list_append mt_append (pv 1) (pa_cons (pv 8) pa_nil)))) pss_nil))))))))))
      (pss_one (ps_ret (pv 1)))), ?_⟩
    have sl : ∀ n : Nat, n ≤ 1000 → n ≤ sizeLine := fun n h => Nat.le_of_lt (small1000 h)
    have hp4 := hp.sz
    refine ⟨sl 0 (by decide), fun lf nf => ⟨_, rfl, p, v, rfl, hd.tm (TM.new nf), hp.sz, hp.dep, fun H1 hv s1 nhv ehv => ?_⟩⟩
    refine ⟨_, _, rfl, ?_⟩
    have s01 : Same H H1 := (same_new nf).trans s1
    have ef1 := s1 _ _ upd_same
    refine ⟨_, rfl, p, v, rfl, hd.tm (TM.same s01), by omega, fun H2 l us s2 nl el pl => ⟨l, rfl, ⟨_, SqL.of el⟩, ?_⟩⟩
    have nlf : l ≠ lf := fun z => by
      rw [z, ef1] at nl
      cases nl
    have ef2 := s2 _ _ ef1
    have ehv2 := s2 _ _ ehv
    have hd2 := hd.tm (TM.same (s01.trans s2))
    have lus := pl.length
    refine for_list (K := K) (a := l) (xs := us) (fun i σ H' => ∃ (fus : List V) (x3 x4 x5 x6 x7 x8 x9 x10 : Option V), σ = [some v, some (.ref lf), some (.ref hv), x3, x4, x5, x6, x7, x8, x9, x10] ∧ Same H H' ∧ But lf H2 H' ∧ H' lf = some (.lst fus) ∧ AtAll H' ((lighterP p (((paths p).take i).map (cA p)).flatten).map encP) fus)
      ⟨[], none, none, none, none, none, none, none, none, rfl, s01.trans s2, But.refl _ _, ef2, .nil⟩ (fun i σ H' _ ⟨_, _, _, _, _, _, _, _, _, _, _, b, _⟩ => SqL.of (b _ _ nlf el)) ?_ ?_
    · rintro i x σ H3 hx ⟨fus, x3, x4, x5, x6, x7, x8, x9, x10, rfl, s3, b3, ef3, af3⟩
      obtain ⟨path, bp, hpath, rfl, zb, _, hb⟩ := pl.get hx
      have nbp : bp ≠ lf := fun z => by
        rw [z, ef1] at zb
        cases zb
      have hb3 := b3 _ _ nbp hb
      have t23 := But.tm2 ef2 b3
      have hd3 := hd2.tm t23
      have pf := paths_fine p path (List.mem_of_getElem? hpath)
      obtain ⟨qq, hqq⟩ := Option.isSome_iff_exists.mp pf.1
      have hlen6 : path.length ≤ 6 := by
        have := hp.hg
        have := pf.2
        omega
      refine ⟨_, rfl, _, rfl, p, qq, v, bp, path, rfl, hd3, hb3, hqq, fun u au => ?_⟩
      -- some = [('skip',), ('stop',)] + [here[index] ..]
      refine ⟨fun σ' H' => ∃ (ls : Addr) (us5 : List V) (x9 : Option V), σ' = [some v, some (.ref lf), some (.ref hv), some (.ref bp), some u, some (.ref ls), x6, x7, x8, x9, x10] ∧ Same H3 H' ∧ H3 ls = none ∧ H' ls = some (.lst us5) ∧ AtAll H' (([Pr.skip, Pr.stop] ++ kidsP qq).map encP) us5, ?_, ?_⟩
      · refine ⟨sl 1 (by decide), fun t1 n1 => ⟨sl 1 (by decide), fun t2 n2 => ⟨sl 2 (by decide), fun l0 n0 => ?_⟩⟩⟩
        have c1 := same_new (H := H3) (o := .tup [.str "skip"]) n1
        have c2 := same_new (H := upd H3 t1 (.tup [.str "skip"])) (o := .tup [.str "stop"]) n2
        have c3 := same_new (H := upd (upd H3 t1 (.tup [.str "skip"])) t2 (.tup [.str "stop"])) (o := .lst [.ref t1, .ref t2]) n0
        have c13 := c1.trans (c2.trans c3)
        have a1 : At _ (encP .skip) (.ref t1) := .tup ((c2.trans c3) _ _ upd_same) (.cons (.text "skip" (by decide +kernel)) .nil)
        have a2 : At _ (encP .stop) (.ref t2) := .tup (c3 _ _ upd_same) (.cons (.text "stop" (by decide +kernel)) .nil)
        have e0 : (upd (upd (upd H3 t1 (.tup [.str "skip"])) t2 (.tup [.str "stop"])) l0 (.lst [.ref t1, .ref t2])) l0 = some (.lst [.ref t1, .ref t2]) := upd_same
        generalize upd (upd (upd H3 t1 (.tup [.str "skip"])) t2 (.tup [.str "stop"])) l0 (.lst [.ref t1, .ref t2]) = H4 at c13 a1 a2 e0
        refine ⟨_, rfl, qq, u, rfl, au.tm (TM.same c13), fun H5 l5 s5 e5 => ⟨l5, rfl, ⟨_, SqL.of e5⟩, fun D1 nD1 => ?_⟩⟩
        have pq4 : (kidsP qq).length ≤ 2 := by cases qq <;> simp [kidsP]
        have au5 := au.tm (TM.same (c13.trans s5))
        refine lc_list (K := K) (a := l5) (xs := (places qq).map fun n => V.int (n : Nat)) (fun i H' => Same H5 H' ∧ ∃ bs : List V, H' D1 = some (.lst bs) ∧ AtAll H' (((kidsP qq).take i).map encP) bs) ⟨same_new nD1, [], upd_same, .nil⟩ (fun i H' _ ⟨sm, _⟩ => SqL.of (sm _ _ e5)) ?_ ?_
        · rintro j y H6 hy ⟨s6, bs, hD, hbs⟩
          obtain ⟨n, hn, rfl⟩ : ∃ n, (places qq)[j]? = some n ∧ y = V.int (n : Nat) := by
            rw [List.getElem?_map] at hy
            cases e : (places qq)[j]? with
            | none => rw [e] at hy; cases hy
            | some z => rw [e] at hy; exact ⟨z, rfl, (Option.some.inj hy).symm⟩
          obtain ⟨k, hk, hnth, h1m, hml, hput⟩ := places_kid hn
          obtain ⟨a0, xs0, u0, rfl, ha0, hu0, au0⟩ := (au5.tm (TM.same s6)).nth hml
          rw [hnth] at au0
          have lbs := hbs.length
          rw [List.length_map, List.length_take] at lbs
          refine ⟨rfl, ?_⟩
          refine ⟨_, rfl, _, rfl, a0, xs0, n, u0, rfl, rfl, SqT.of ha0, atI_nat hu0, ?_⟩
          refine ⟨bs, hD, small1000 (by omega), same_mut s6 nD1, _, upd_same, ?_⟩
          rw [take_more hk, List.map_append]
          exact (hbs.append (.cons au0 .nil)).tm (TM.lst hD)
        · rintro H6 ⟨s6, bs, hD, hbs⟩
          rw [show (kidsP qq).take ((places qq).map fun n => V.int (n : Nat)).length = kidsP qq from List.take_of_length_le (by rw [List.length_map, kids_places]; exact Nat.le_refl _)] at hbs
          have lbs := hbs.length
          rw [List.length_map] at lbs
          have s46 := s5.trans s6
          refine ⟨l0, D1, _, bs, rfl, rfl, s46 _ _ e0, hD, sl _ (by simp; omega), fun l9 n9 => ?_⟩
          have s9 := same_new (H := H6) (o := .lst ([.ref t1, .ref t2] ++ bs)) n9
          have s49 := s46.trans s9
          exact ⟨l9, _, _, rfl, c13.trans s49, c13.free (s46.free n9), upd_same, .cons (a1.tm (TM.same s49)) (.cons (a2.tm (TM.same s49)) (hbs.tm (TM.same s9)))⟩
      rintro σ4 H4 ⟨ls, us5, x9, rfl, s4, nls, els, als⟩
      -- place = {..}.get(here[0], None)
      obtain ⟨hh, rr, eh, hv6⟩ := tpl_head qq
      refine ⟨fun σ' H' => σ' = [some v, some (.ref lf), some (.ref hv), some (.ref bp), some u, some (.ref ls), some (((tplace qq).map fun n => V.int (n : Nat)).getD .non), x7, x8, x9, x10] ∧ Same H4 H', ?_, ?_⟩
      · refine fun p0 np0 => ?_
        have c1 := same_new (H := H4) (o := .dK []) np0
        refine ⟨upd_same, [(Sum.inr "assume", .int 1), (Sum.inr "if", .int 1), (Sum.inr "while", .int 1), (Sum.inr "repeat", .int 2)], rfl, (by show 4 ≤ 15; decide), ?_⟩
        have sm2 : Same H4 (upd (upd H4 p0 (.dK [])) p0 (.dK (mergeK [] [((Sum.inr "assume" : Key), V.int 1), (Sum.inr "if", .int 1), (Sum.inr "while", .int 1), (Sum.inr "repeat", .int 2)]))) := same_mut c1 np0
        have au4 := au.tm (TM.same (s4.trans sm2))
        rw [eh] at au4
        obtain ⟨a, xs, rfl, ha, _⟩ := au4.head
        refine ⟨p0, rfl, .inl ⟨_, .inl upd_same⟩, _, rfl, a, _, 0, .str hh, rfl, rfl, SqT.of ha, atI_nat (j := 0) rfl, _, DGet.k (k := Sum.inr hh) upd_same, ?_⟩
        rw [hv6]
        exact ⟨rfl, sm2⟩
      rintro σ5 H5 ⟨rfl, s5⟩
      -- if place is not None
      have els5 := s5 _ _ els
      have als5 := als.tm (TM.same s5)
      have s35 := s4.trans s5
      refine ⟨fun σ' H' => ∃ (ls : Addr) (us5 : List V) (x6 x9 x10 : Option V), σ' = [some v, some (.ref lf), some (.ref hv), some (.ref bp), some u, some (.ref ls), x6, x7, x8, x9, x10] ∧ Same H3 H' ∧ H3 ls = none ∧ H' ls = some (.lst us5) ∧ AtAll H' ((here qq).map encP) us5, ?_, ?_⟩
      · cases ep : tplace qq with
        | none =>
          refine ⟨_, rfl, _, rfl, ?_⟩
          have ehr : here qq = [Pr.skip, Pr.stop] ++ kidsP qq := by
            unfold here
            rw [ep]
            exact List.append_nil _
          exact ⟨ls, us5, _, _, _, rfl, s35, nls, els5, by rw [ehr]; exact als5⟩
        | some n =>
          obtain ⟨hn1, hn2⟩ := tplace_lt ep
          refine ⟨_, rfl, _, rfl, ?_⟩
          refine ⟨_, rfl, sl 1 (by decide), fun r1 m1 => ⟨sl 1 (by decide), fun r2 m2 => ⟨sl 2 (by decide), fun r3 m3 => ?_⟩⟩⟩
          have v1 := same_new (H := H5) (o := .tup [.str "true"]) m1
          have v2 := same_new (H := upd H5 r1 (.tup [.str "true"])) (o := .tup [.str "false"]) m2
          have v3 := same_new (H := upd (upd H5 r1 (.tup [.str "true"])) r2 (.tup [.str "false"])) (o := .lst [.ref r1, .ref r2]) m3
          have v13 := v1.trans (v2.trans v3)
          have b1 : At (upd (upd (upd H5 r1 (.tup [.str "true"])) r2 (.tup [.str "false"])) r3 (.lst [.ref r1, .ref r2])) (encT .tr) (.ref r1) := .tup (v3 _ _ (v2 _ _ upd_same)) (.cons (.text "true" (by decide +kernel)) .nil)
          have b2 : At (upd (upd (upd H5 r1 (.tup [.str "true"])) r2 (.tup [.str "false"])) r3 (.lst [.ref r1, .ref r2])) (encT .fa) (.ref r2) := .tup (v3 _ _ upd_same) (.cons (.text "false" (by decide +kernel)) .nil)
          have b3' : (upd (upd (upd H5 r1 (.tup [.str "true"])) r2 (.tup [.str "false"])) r3 (.lst [.ref r1, .ref r2])) r3 = some (.lst [.ref r1, .ref r2]) := upd_same
          generalize upd (upd (upd H5 r1 (.tup [.str "true"])) r2 (.tup [.str "false"])) r3 (.lst [.ref r1, .ref r2]) = H7 at v13 b1 b2 b3'
          refine ⟨r3, rfl, ⟨_, SqL.of b3'⟩, fun D1 nD1 => ?_⟩
          refine lc_list (K := K) (a := r3) (xs := [.ref r1, .ref r2]) (fun i H' => Same H7 H' ∧ ∃ bs : List V, H' D1 = some (.lst bs) ∧ AtAll H' (([withT qq .tr, withT qq .fa].take i).map encP) bs) ⟨same_new nD1, [], upd_same, .nil⟩ (fun i H' _ ⟨sm, _⟩ => SqL.of (sm _ _ b3')) ?_ ?_
          · rintro j y H8 hy ⟨sm, bs, hD, hb9⟩
            obtain ⟨tt, htt, att⟩ : ∃ tt : Te, ([Te.tr, Te.fa])[j]? = some tt ∧ At H7 (encT tt) y := by
              match j, hy with
              | 0, hy => cases hy; exact ⟨_, rfl, b1⟩
              | 1, hy => cases hy; exact ⟨_, rfl, b2⟩
            have hw : ([withT qq .tr, withT qq .fa])[j]? = some (withT qq tt) := by
              match j, htt with
              | 0, htt => cases htt; rfl
              | 1, htt => cases htt; rfl
            refine ⟨rfl, ?_⟩
            refine putTE_read (d := encP qq) (e := encT tt) (i := n) rfl rfl rfl (au.tm (TM.same (s35.trans (v13.trans sm)))) (att.tm (TM.same sm)) hn1 hn2 (Nat.le_trans (encP_items4 qq) (by decide)) (fun H10 z s10 az => ?_)
            have lbs := hb9.length
            refine ⟨bs, s10 _ _ hD, small1000 ?_, same_mut (sm.trans s10) nD1, _, upd_same, ?_⟩
            · rw [List.length_map, List.length_take] at lbs
              simp only [List.length_cons, List.length_nil] at lbs
              omega
            · rw [take_more hw, List.map_append, ← withT_enc ep tt] at *
              exact ((hb9.tm (TM.same s10)).append (.cons az .nil)).tm (TM.lst (s10 _ _ hD))
          · rintro H8 ⟨sm, bs, hD, hb9⟩
            have e58 := sm _ _ (v13 _ _ els5)
            have lbs := hb9.length
            have l5 := als5.length
            have kq2 : (kidsP qq).length ≤ 2 := by cases qq <;> simp [kidsP]
            refine ⟨ls, D1, us5, bs, rfl, rfl, e58, hD, sl _ ?_, fun p9 n9 => ?_⟩
            · rw [List.length_map, List.length_take] at lbs
              simp only [List.length_cons, List.length_nil, List.length_append, List.length_map] at lbs l5 ⊢
              omega
            have s9 := same_new (H := H8) (o := .lst (us5 ++ bs)) n9
            have s59 := v13.trans (sm.trans s9)
            have ehr : here qq = [Pr.skip, Pr.stop] ++ kidsP qq ++ [withT qq .tr, withT qq .fa] := by
              unfold here
              rw [ep]
            refine ⟨p9, us5 ++ bs, _, _, _, rfl, s35.trans s59, s35.free (v13.free (sm.free n9)), upd_same, ?_⟩
            rw [ehr, List.map_append]
            exact (als5.tm (TM.same s59)).append (hb9.tm (TM.same s9))
      clear els als nls s4 ls us5 x9 s5 els5 als5 s35 eh hv6
      rintro σ6 H6 ⟨ls, us5, x6, x9, x10, rfl, s6, nls, els, als⟩
      -- for part in some
      have eA : cA p path = (here qq).map (putAt p path) := by
        unfold cA
        rw [hqq]
      have lls := als.length
      rw [List.length_map] at lls
      have ef6 := s6 _ _ ef3
      have nlsf : ls ≠ lf := fun z => by
        rw [z, ef3] at nls
        cases nls
      have tot := allCh_len p
      have tot6 : ((((paths p).take i).map (cA p)).flatten ++ cA p path).length ≤ 360 := by
        have e1 : ((((paths p).take (i + 1)).map (cA p)).flatten).length ≤ (((paths p).map (cA p)).flatten).length := by
          conv => rhs; rw [← List.take_append_drop (i + 1) (paths p), List.map_append, List.flatten_append, List.length_append]
          omega
        rw [paths_changes p, take_more hpath, List.map_append, List.flatten_append] at e1
        simp only [List.map_cons, List.map_nil, List.flatten_cons, List.flatten_nil, List.append_nil] at e1
        omega
      have memA : ∀ r ∈ (((paths p).take i).map (cA p)).flatten ++ cA p path, r ∈ allCh p := fun r hr9 => by
        rw [← paths_changes p, ← List.take_append_drop (i + 1) (paths p), List.map_append, List.flatten_append, take_more hpath, List.map_append, List.flatten_append]
        refine List.mem_append_left _ ?_
        simpa using hr9
      generalize hL : (((paths p).take i).map (cA p)).flatten = L at af3 tot6 memA
      have af6 := af3.tm (TM.same s6)
      refine ⟨_, rfl, ls, rfl, ⟨_, SqL.of els⟩, ?_⟩
      refine for_list (K := K) (a := ls) (xs := us5) (fun j σ H' => ∃ (fus : List V) (y7 y8 : Option V), σ = [some v, some (.ref lf), some (.ref hv), some (.ref bp), some u, some (.ref ls), x6, y7, y8, x9, x10] ∧ Same H H' ∧ But lf H6 H' ∧ H' lf = some (.lst fus) ∧ AtAll H' ((lighterP p (L ++ (cA p path).take j)).map encP) fus)
        ⟨fus, x7, x8, rfl, s3.trans s6, But.refl _ _, ef6, by rw [List.take_zero, List.append_nil]; exact af6⟩ (fun j σ H' _ ⟨_, _, _, _, _, b, _⟩ => SqL.of (b _ _ nlsf els)) ?_ ?_
      · rintro j y σ H7 hy ⟨fus, y7, y8, rfl, s7, b7, ef7, af7⟩
        obtain ⟨r0, hr0, ar0⟩ := getE als hy
        have hrA : (cA p path)[j]? = some (putAt p path r0) := by
          rw [eA, List.getElem?_map, hr0]
          rfl
        have t67 := But.tm2 ef6 b7
        have b37 := (But.same (a := lf) s6).trans b7
        have t37 := (TM.same s6).trans t67
        have hrmem : putAt p path r0 ∈ allCh p := memA _ (List.mem_append_right _ (List.mem_of_getElem? hrA))
        have fine := allCh_fine p _ hrmem
        have hjl : j < (cA p path).length := (List.getElem?_eq_some_iff.mp hrA).1
        refine ⟨_, rfl, _, rfl, _, rfl, p, r0, qq, v, y, bp, path, rfl, hlen6, hd3.tm t37, ar0.tm t67, b37 _ _ nbp hb3, hqq, fun H8 z s8 az => ?_⟩
        refine ⟨_, rfl, _, z, rfl, az, Nat.le_trans fine.2.1 hp.sz, Nat.le_trans fine.2.2 hp.dep, fun H9 t s9 nt et => ?_⟩
        have s89 := s8.trans s9
        have ehv9 := s89 _ _ (t67 _ _ (s6 _ _ (t23 _ _ ehv2)))
        refine ⟨_, rfl, t, hv, [((wt (putAt p path r0)).1 : Int), ((wt (putAt p path r0)).2.1 : Int), ((wt (putAt p path r0)).2.2 : Int)], [((wt p).1 : Int), ((wt p).2.1 : Int), ((wt p).2.2 : Int)], rfl, rfl, SqT.of et, SqT.of ehv9, _, rfl, ?_⟩
        have step : lighterP p (L ++ (cA p path).take (j + 1)) = stepL p (lighterP p (L ++ (cA p path).take j)) (putAt p path r0) := by
          rw [lighterP_append, lighterP_append, take_more hrA, List.foldl_append]
          rfl
        have acc_le : (lighterP p (L ++ (cA p path).take j)).length ≤ 360 := by
          have := lighterP_le p (L ++ (cA p path).take j)
          rw [List.length_append, List.length_take] at this
          rw [List.length_append] at tot6
          omega
        have acc_mem : ∀ r ∈ lighterP p (L ++ (cA p path).take j), r ∈ allCh p := fun r hr9 => by
          have := lighterP_mem hr9
          rcases List.mem_append.mp this with h | h
          · exact memA r (List.mem_append_left _ h)
          · exact memA r (List.mem_append_right _ (List.mem_of_mem_take h))
        have ef9 := s89 _ _ ef7
        have af9 := af7.tm (TM.same s89)
        have lfu := af9.length
        rw [List.length_map] at lfu
        refine ite_bl (fun c => ?_) (fun c => ?_)
        · have c' : ltW (wt (putAt p path r0)) (wt p) = true := c
          have az9 := az.tm (TM.same s9)
          have hda : NestedKey.depthAll ((lighterP p (L ++ (cA p path).take j)).map encP) ≤ 60 := Nat.le_trans (depthAll_le (m := 8) fun d hd9 => by
            obtain ⟨n, hn, rfl⟩ := List.mem_map.mp hd9
            exact Nat.le_trans (allCh_fine p n (acc_mem n hn)).2.2 hp.dep) (by decide)
          refine ⟨_, rfl, _, rfl, _, _, az9.dp, .lst (SqL.of ef9) af9.dp, az9.shaped (Nat.le_trans fine.2.2 (Nat.le_trans hp.dep (by decide))), af9.shaped hda, _, rfl, ?_⟩
          rw [any_enc]
          refine ite_bl (fun c2 => ?_) (fun c2 => ?_)
          · have nin : ¬ putAt p path r0 ∈ lighterP p (L ++ (cA p path).take j) := by simpa using c2
            refine ⟨.ref lf, rfl, .inl ⟨rfl, _, SqL.of ef9⟩, _, rfl, lf, fus, z, rfl, rfl, ef9, small1000 (by omega), ?_⟩
            refine ⟨fus ++ [z], _, _, rfl, same_mut (s7.trans s89) nf, (b7.trans (But.same s89)).trans But.put, upd_same, ?_⟩
            rw [step]
            unfold stepL putP
            rw [if_pos c', if_neg nin, List.map_append]
            exact (af9.append (.cons az9 .nil)).tm (TM.lst ef9)
          · have nin : putAt p path r0 ∈ lighterP p (L ++ (cA p path).take j) := by simpa using c2
            refine ⟨fus, _, _, rfl, s7.trans s89, b7.trans (But.same s89), ef9, ?_⟩
            rw [step]
            unfold stepL putP
            rw [if_pos c', if_pos nin]
            exact af9
        · have c' : ltW (wt (putAt p path r0)) (wt p) = false := c
          refine ⟨fus, _, _, rfl, s7.trans s89, b7.trans (But.same s89), ef9, ?_⟩
          rw [step]
          unfold stepL
          rw [c', if_neg Bool.false_ne_true]
          exact af9
      · rintro σ H7 ⟨fus, y7, y8, rfl, s7, b7, ef7, af7⟩
        rw [show (cA p path).take us5.length = cA p path from List.take_of_length_le (by rw [eA, List.length_map]; omega)] at af7
        refine ⟨fus, _, _, _, _, _, _, _, _, rfl, s7, b3.trans ((But.same s6).trans b7), ef7, ?_⟩
        rw [take_more hpath, List.map_append, List.flatten_append, hL]
        simp only [List.map_cons, List.map_nil, List.flatten_cons, List.flatten_nil, List.append_nil]
        exact af7
    · rintro σ H3 ⟨fus, x3, x4, x5, x6, x7, x8, x9, x10, rfl, s3, b3, ef3, af3⟩
      rw [show (paths p).take us.length = paths p from List.take_of_length_le (by omega), paths_changes p] at af3
      exact ⟨_, rfl, q H3 lf fus s3 nf ef3 af3⟩
end
end K46

set_option Elab.async false
set_option linter.all false
set_option maxRecDepth 100000
set_option maxHeartbeats 4000000
/-! repr of nested data, where no repr is under way. -/
namespace K46
open PySem PySem.Spec PyProof.Rows L2
def rRepr : List V → Hp → VK → Prop := fun vs H Q => ∃ (d : D) (v : V), vs = [v] ∧ At H d v ∧ d.data.showable = true ∧ d.data.shown.length ≤ 1000 ∧ d.depth ≤ 60 ∧ Q (.str d.data.shown) H
theorem call_repr_at {X : Cx} (hg : X.A.guards = some []) (hu : X.A.units + 100 < cLine) : CallR X (.builtin "repr") rRepr := by
  intro pins s σ H xs us Q I r h
  obtain ⟨d, v, rfl, hd, hs, hl, hdp, q⟩ := h
  obtain ⟨u, rfl, rx⟩ := r.one
  cases hd with
  | none =>
    cases rx
    exact PySem.P.repr_of_none ⟨.str "None", H, I.tok _, ⟨_, rfl⟩, q⟩
  | num i =>
    obtain ⟨t, rfl⟩ := rx
    exact PySem.P.repr_of_int (of_decide_eq_true hs) ⟨.str (toString i), H, I.tok _, ⟨_, rfl⟩, q⟩
  | text x ok =>
    obtain ⟨t, rfl⟩ := rx
    exact PySem.P.repr_of_str ⟨.str (PySem.reprText x), H, I.tok _, ⟨_, rfl⟩, q⟩ (Nat.le_of_lt (small1000 hl))
  | @tup a xs ks e q2 =>
    cases rx
    have hd : At H (.tup ks) (.ref a) := .tup e q2
    obtain ⟨as, rd⟩ := Dp.reads I _ _ _ (At.dp (K := X.K) hd) rfl
    have hlay := data_lay hd
    refine repr_of_reads' (prog := X.prog) (w := X.w) (d := (NestedKey.tup ks).data) rd hs (fun z => absurd z (by rw [PyData.hasDict_of_canLay _ hlay]; exact Bool.false_ne_true)) hg (by rw [data_depth]; omega) (fun _ _ e => e) (fun h' w tk kp => ?_) (Nat.le_of_lt (small1000 hl))
    exact ⟨.str (NestedKey.tup ks).data.shown, H, I.kept kp, ⟨_, rfl⟩, q⟩
end K46

set_option Elab.async false
set_option linter.all false
set_option maxRecDepth 100000
set_option maxHeartbeats 4000000
/-! _law_heard: it calls what it got. -/
namespace K46
open PySem PySem.Spec PyProof.Rows L2 LamX
abbrev sHeard : Stmt := topS 41
abbrev nsHd : List Str := ["call", "e"]
theorem scHd : FnScope nsHd ["call"] (defScope sHeard) := ⟨rfl, rfl, rfl, by decide +kernel, rfl, by decide +kernel, by decide +kernel⟩
/-- what is made of the lambda's reading -/
def THeard (C : Addr) : (XK → Hp → VK → Prop) → Hp → VK → Prop := fun tl H Q =>
  tl (fun cls d H' => cls = .ref C ∧ ∃ (dd : Addr) (v : V), d = some dd ∧ H' dd = some (.xd [(("value" : Str), v)]) ∧ rRepr [v] H' fun z H1 => ([V.str "program", z] : List V).length ≤ sizeLine ∧ ∀ t, H1 t = none → Q (.ref t) (upd H1 t (.tup [.str "program", z])))
    H fun v H' => ([V.str "ok", v] : List V).length ≤ sizeLine ∧ ∀ t, H' t = none → Q (.ref t) (upd H' t (.tup [.str "ok", v]))
theorem guards_deeper (A : Around) (env : Env) (h : A.guards = some []) : (A.deeper env).guards = some [] := by
  first
    | exact h
    | (unfold Around.deeper; exact h)
    | simp [Around.deeper, Around.under, Code.guards, pushGuards, h]
/-- the state has the slots -/
def tLen (n : Nat) (t : TE) : TE := fun σ H Q => σ.length = n → t σ H Q
theorem pe_len {X : Cx} {e : Expr} {t : TE} {n : Nat} (h : PE X e t) (hn : X.N.length = n := by rfl) : PE X e (tLen n t) := ⟨fun pins s σ H Q I q => h.run pins s σ H Q I (q (I.len.trans hn))⟩
section
variable {X : Cx} {C fI g : Addr} {cdg : Value} {q : Str}
theorem heard_gives (T : PySem.SupX.SupTxt X.prog X.K X.mg "BadProgram" C fI) (hg : X.A.guards = some []) (hu : X.A.units + 300 < cLine) (hre : X.mg "repr" = none) :
    GivesTo X nsHd "_law_heard" (defScope sHeard) g cdg (defBody sHeard) "call" q (THeard C) := by
  intro f c' s H Q tl act hc h
  have hg2 := guards_deeper X.A (envOfC "_law_heard" (defScope sHeard) s.heap.objs.size g cdg) hg
  have hu2 : (X.A.deeper (envOfC "_law_heard" (defScope sHeard) s.heap.objs.size g cdg)).units + 100 < cLine := by
    show X.A.units + 3 + 100 < cLine
    omega
  refine ⟨_, pss_one (ps_try_as (X := (cxOf C8.CX0 X.prog X.w X.K X.mg X.base nsHd "_law_heard" (defScope sHeard) g cdg X.A X.stack s H C8.E0).nox) (i := 1)
      (tb := fun W D σ H => ∃ Ech : XK, (∀ cls d σ' H', Ech cls d H' → W cls d σ' H') ∧ σ[0]? = some (some (.ref f)) ∧ H c' = some (CodeO c' q) ∧ tl Ech H fun v H' => ([V.str "ok", v] : List V).length ≤ sizeLine ∧ ∀ t, H' t = none → D.rt (.ref t) (upd H' t (.tup [.str "ok", v])))
      (ts := fun a cls d => tRet (tTup (tCons (tC (.str "program")) (tCons (tCB rRepr (tCons (tValSup C a cls d (tLen 2 (tVar 1))) tNil)) tNil))))
      (Wout := fun _ _ _ _ => False) rfl rfl scHd.nd rfl rfl ⟨rfl, by decide, .inl T.gC⟩ L2.takes0 (fun W pn xe tk _ => ?_) (fun a oe cls d pn hz hf => ?_)), ?_⟩
  · refine ⟨fun pins s' σ H' D I h' => ?_⟩
    obtain ⟨Ech, hW, h1, h2, h3⟩ := h'
    have hp := act W pn xe Ech ⟨209, 22, 209, 26⟩ ⟨209, 22, 209, 28⟩ tk hW
    exact PSs.run (pss_one (ps_ret (pe_tup (pa_cons pe_str (pa_cons hp pa_nil))))) pins s' σ H' D I ⟨h1, h2, h3⟩
  · exact pss_one (ps_ret (pe_tup (pa_cons pe_str (pa_cons (pe_callB (call_repr_at hg2 hu2) (by rfl) hre (by decide +kernel) (pa_cons (pe_valSup T hz hf (pe_len (pv 1))) pa_nil)) pa_nil))))
  · refine ⟨_, ?_, rfl, hc, h⟩
    rintro cls d σ' H' ⟨rfl, dd, v, rfl, hdd, hq⟩
    refine ⟨true, T.te, fun _ a0 _ => ?_, fun z => Bool.noConfusion z⟩
    refine fun hl => ⟨.ref a0, ?_, rfl, rfl, dd, v, rfl, hdd, hq⟩
    rw [List.length_set] at hl
    rw [List.getElem?_set_self (by omega)]
end
end K46

set_option Elab.async false
set_option linter.all false
set_option maxRecDepth 100000
set_option maxHeartbeats 4000000
/-! x(lambda b=0: body): a lambda with one parameter that has a written number as default, called without arguments. -/
namespace K46
open PySem PySem.Spec PyProof.Rows L2 LamX
section
variable {X : Cx} {pins : List (Addr × Obj)} {σ : L2.St} {H : Hp} {s : Shared}
/-- the function object is made, whatever its defaults: its code object is new, or the table's -/
theorem tail_any {Tb : List (Addr × Str)} {c P : Addr} {nm : Str} {pars : Arguments} {bdy : Expr} {sc : Scope} {ps9 : Pos} {fl : Nat} {dflt : Value} {E Q : Value → Shared → Prop} (I : Inv X pins σ H s) (tab : TabB X.base X.mg c P) (hcode : X.env.code = .ref c)
    (hin : (P, nm) ∈ Tb) (hone : ∀ z ∈ Tb, z.1 = P → z.2 = nm) (hTb : Tabs Tb H) (hfr : ∀ y ∈ sc.names, y.2 = .free → ∃ c, X.env.cells.lookup y.1 = some c)
    (go : ∀ (f k : Addr) (pm doc ct : Value) (H' : Hp) (s' : Shared), Inv X pins σ H' s' → ExtN H H' → Tabs Tb H' → (∀ b o, b ≠ P → s.heap.get? b = some o → s'.heap.get? b = some o) → (∀ b, b < s.heap.objs.size → b ≠ P → H b = none → H' b = none) →
      s'.heap.get? f = some (PySem.W.kdv_obj "<lambda>" nm pars (.expr bdy) sc (cloFrom X.env.cells sc.names []) dflt doc pm k ct) → H' f = none → f ∉ frs X.stack → H' k = some (CodeO k nm) → Q (.ref f) s') :
    wpAny (model X.prog X.w) X.A (makeTail "<lambda>" nm pars (.expr bdy) sc X.env dflt .none none ps9 fl) Q E s := by
  obtain ⟨tb, tP, t3, t4⟩ := hTb _ hin
  have bm := tab.bm.keeps I.bk
  have gP : s.heap.get? P = some { cls := .none, data := .fields tb } := I.hok P _ tP
  have szP := Heap.lt_size gP
  have far : ∀ f, s.heap.objs.size ≤ f → f ∉ frs X.stack := fun f hf hm => by
    rcases List.mem_cons.mp (I.stkSub _ hm) with e | e
    · have := I.lt
      rw [← e] at this
      exact absurd hf (Nat.not_le_of_lt this)
    · exact I.nofs hf e
  have glob := I.mod.glob.keeps I.bk
  have clo := closure_ok (scope := sc) (env := X.env) hfr
  cases lk : codeAmong ps9 tb.toList with
  | some cv =>
    obtain ⟨k, ek, hk⟩ := t4 ps9 cv lk
    rw [ek] at lk
    refine PySem.W.kdv_makeTailHit (mg := X.mg) clo I.ok.glob glob hcode (tab.code.keeps I.bk) gP t3 lk bm fun ct doc h' tk kp sz => ?_
    have J : Inv X pins σ H { s with heap := h'.push { cls := .type "function", data := .func (PySem.W.kdv_fn "<lambda>" nm pars (.expr bdy) sc (cloFrom X.env.cells sc.names []) dflt doc ((X.mg "__name__").getD .none) (.ref k) ct) }, toks := tk } :=
      I.kept fun b o e => Heap.get?_push_of_some _ (kp b o e)
    exact go h'.objs.size k _ doc ct H _ J (ExtN.refl H) hTb (fun b o _ e => Heap.get?_push_of_some _ (kp b o e)) (fun _ _ _ e => e) (Heap.get?_push_size _ rfl) (I.hok.fresh sz) (far _ sz) hk
  | none =>
    refine PySem.W.kdv_makeTail (mg := X.mg) clo I.ok.glob glob hcode (tab.code.keeps I.bk) gP t3 lk tab.gP bm fun k ct doc h' tk kp ge lt rec htab => ?_
    obtain ⟨k2, oc, us, tt, ek, hoc, hdat, hnm⟩ := rec
    cases ek
    have szF : s.heap.objs.size ≤ h'.objs.size := Nat.le_trans ge (Nat.le_of_lt lt)
    have fk : H k = none := I.hok.fresh ge
    have Pk : P ≠ k := Nat.ne_of_lt (Nat.lt_of_lt_of_le szP ge)
    have J := inv_table (t' := tk) (more := #[rawInt ps9.line, rawInt ps9.col, .ref k]) (q := nm) (c := k)
      (h' := h'.push (PySem.W.kdv_obj "<lambda>" nm pars (.expr bdy) sc (cloFrom X.env.cells sc.names []) dflt doc ((X.mg "__name__").getD .none) k ct)) I tP
      (fun b o nb e => Heap.get?_push_of_some _ (kp b o nb e)) (Heap.get?_push_of_some _ htab) ge ⟨oc, us, tt, Heap.get?_push_of_some _ hoc, hdat, hnm⟩
    have ext : ExtN H (upd (upd H P (.tbl (tb ++ #[rawInt ps9.line, rawInt ps9.col, .ref k]))) k (CodeO k nm)) := fun b o e nt => by
      have b1 : b ≠ k := ne_of_none e fk
      have b2 : b ≠ P := fun z => by
        rw [z, tP] at e
        exact nt tb (Option.some.inj e).symm
      rw [upd_ne b1, upd_ne b2, e]
    have lst : (tb ++ #[rawInt ps9.line, rawInt ps9.col, .ref k]).toList = tb.toList ++ [rawInt ps9.line, rawInt ps9.col, .ref k] := by simp
    refine go h'.objs.size k _ doc ct _ _ J ext (fun z hz => ?_) (fun b o nb e => Heap.get?_push_of_some _ (kp b o nb e)) (fun b hb nb e => ?_) (Heap.get?_push_size _ rfl) ?_ (far _ szF) upd_same
    · by_cases zP : z.1 = P
      · rw [hone z hz zP, zP]
        refine ⟨_, (upd_ne Pk).trans upd_same, by rw [lst]; exact PySem.TriplesOk_snoc _ _ _ _ t3, fun p' cv hcv => ?_⟩
        rw [lst] at hcv
        rcases among_app _ t3 hcv with w | w
        · obtain ⟨k0, a1, a2⟩ := t4 p' cv w
          exact ⟨k0, a1, ext _ _ a2 codeO_ne⟩
        · exact ⟨k, w, upd_same⟩
      · obtain ⟨tb2, a1, a2, a3⟩ := hTb z hz
        refine ⟨tb2, ?_, a2, fun p' cv hcv => ?_⟩
        · rw [upd_ne (ne_of_none a1 fk), upd_ne zP, a1]
        · obtain ⟨k0, e1, e2⟩ := a3 p' cv hcv
          exact ⟨k0, e1, ext _ _ e2 codeO_ne⟩
    · have : b ≠ k := Nat.ne_of_lt (Nat.lt_of_lt_of_le hb ge)
      rw [upd_ne this, upd_ne nb, e]
    · have f1 : h'.objs.size ≠ k := Nat.ne_of_gt lt
      have f2 : h'.objs.size ≠ P := Nat.ne_of_gt (Nat.lt_of_lt_of_le szP szF)
      rw [upd_ne f1, upd_ne f2]
      exact I.hok.fresh szF
/-- lambda b=n: body -/
theorem lam_dflt {Tb : List (Addr × Str)} {c P : Addr} {pars : Arguments} {bdy : Expr} {sc : Scope} {lp cp : Pos} {n : Int} {j : Nat} {E Q : Value → Shared → Prop} (I : Inv X pins σ H s) (tab : TabB X.base X.mg c P) (hcode : X.env.code = .ref c)
    (hin : (P, X.env.qual ++ "<lambda>") ∈ Tb) (hone : ∀ z ∈ Tb, z.1 = P → z.2 = X.env.qual ++ "<lambda>") (hTb : Tabs Tb H) (hfr : ∀ y ∈ sc.names, y.2 = .free → ∃ c, X.env.cells.lookup y.1 = some c)
    (hd : pars.defaults = [.Constant (.int n) j cp]) (hk : pars.kw_defaults = [])
    (go : ∀ (f k t0 : Addr) (pm doc ct : Value) (tk : Tok) (H' : Hp) (s' : Shared), Inv X pins σ H' s' → ExtN H H' → Tabs Tb H' → s'.heap.get? t0 = some (PySem.W.kdv_tup [.int n tk]) → H' t0 = none → t0 ∉ frs X.stack →
      s'.heap.get? f = some (PySem.W.kdv_obj "<lambda>" (X.env.qual ++ "<lambda>") pars (.expr bdy) sc (cloFrom X.env.cells sc.names []) (.ref t0) doc pm k ct) → H' f = none → f ∉ frs X.stack → H' k = some (CodeO k (X.env.qual ++ "<lambda>")) → Q (.ref f) s') :
    wpAny (model X.prog X.w) X.A (eval (.Lambda pars bdy sc lp) X.env) Q E s := by
  refine PySem.W.kdv_lam (by rw [hd]; rfl) hk ?_
  rw [hd]
  refine PySem.W.kdv_all1 ?_
  refine wpAny_Constant_int ?_
  refine PySem.W.kdv_all0 ?_
  rw [makeFunction_eq]
  simp only [List.zip_nil_right, List.filterMap_nil, List.isEmpty_nil, List.isEmpty_cons, if_true, pure_bind, Bool.false_eq_true, if_false]
  refine wpAny_bind (wpAny_newTextTuple ?_)
  have J : Inv X pins σ H { s with heap := s.heap.push (PySem.W.kdv_tup [.int n s.toks]), toks := s.toks + 1 } := I.kept fun b o e => Heap.get?_push_of_some _ e
  obtain ⟨tb, tP, t3, t4⟩ := hTb _ hin
  have szP := Heap.lt_size (I.hok P _ tP)
  have far : s.heap.objs.size ∉ frs X.stack := fun hm => by
    rcases List.mem_cons.mp (I.stkSub _ hm) with e | e
    · have := I.lt
      rw [← e] at this
      exact Nat.lt_irrefl _ this
    · exact I.nofs (Nat.le_refl _) e
  refine tail_any (s := { s with heap := s.heap.push (PySem.W.kdv_tup [.int n s.toks]), toks := s.toks + 1 }) J tab hcode hin hone hTb hfr fun f k pm doc ct H' s' J' ex T' kp kn hf hn hfs hk' => ?_
  have tne : s.heap.objs.size ≠ P := Nat.ne_of_gt szP
  exact go f k s.heap.objs.size pm doc ct s.toks H' s' J' ex T' (kp _ _ tne (Heap.get?_push_size _ rfl)) (kn _ (by rw [Heap.size_push]; exact Nat.lt_succ_self _) tne (I.hok.fresh (Nat.le_refl _))) far hf hn hfs hk'
end
end K46

set_option Elab.async false
set_option linter.all false
set_option maxRecDepth 100000
set_option maxHeartbeats 4000000
/-! x(lambda b=0: body): the lambda runs. -/
namespace K46
open PySem PySem.Spec PyProof.Rows L2 LamX
/-- its own names are no names of the def around -/
structure LamD (outer inner : Scope) (N : List Str) : Prop where
  kind : inner.kind = .function
  co : inner.isCoroutine = false
  gen : inner.isGenerator = false
  cells : ∀ y ∈ inner.names, y.2 ≠ .cell
  own : ∀ y ∈ inner.names, y.2 = .local → y.1 ∉ N
  free : ∀ y ∈ inner.names, y.2 = .free → outer.names.lookup y.1 = some .cell ∨ outer.names.lookup y.1 = some .free
section
variable {X : Cx} {pins : List (Addr × Obj)} {σ : L2.St} {H HZ : Hp} {s s1 : Shared}
theorem LamD.has {inner : Scope} {N : List Str} (L : LamD X.env.scope inner N) (ok : X.Ok) : ∀ y ∈ inner.names, y.2 = .free → ∃ c, X.env.cells.lookup y.1 = some c := fun y hy e => ok.has _ (L.free y hy e)
/-- the start of its body -/
theorem lamD_start {A : Around} {outer : List Env} {E : XK} {sc : Scope} {f k : Addr} {h₁ : Heap} {tk : Nat} {bs : List (Str × Value)} (I : Inv X pins σ H s) (L : LamD X.env.scope sc X.N) (e0 : Env0 X.prog X.w X.K X.mg X.base A outer s1 HZ) (hd : A.handled = none)
    (un : Un (frs X.stack) [] H HZ s.heap s1.heap) (ns : h₁.Ns s1.heap.objs.size fun y => bs.reverse.lookup y) (kp : ∀ b o, s1.heap.get? b = some o → h₁.get? b = some o) :
    Inv (lamCx X A outer s1 HZ E sc f k) [] σ HZ { s1 with heap := h₁, toks := tk } := by
  have hfree := L.has I.ok
  have old : ∀ {y : Str} {c : Addr}, (cloFrom X.env.cells sc.names []).lookup y = some c → X.env.cells.lookup y = some c := fun {y c} e => by
    rcases cloFrom_mem (PySem.mem_of_lookup e) with z | ⟨z1, z2⟩
    · cases z
    · obtain ⟨c1, hc⟩ := hfree _ z1 rfl
      rw [show X.env.cells.lookup y = some c1 from hc] at z2 ⊢
      rw [z2] <;> rfl
  have there : ∀ {y : Str}, sc.names.lookup y = some .free → ∃ c, (cloFrom X.env.cells sc.names []).lookup y = some c := fun {y} hl => mem_lookup (cloFrom_has (cells := X.env.cells) (acc := []) (PySem.mem_of_lookup hl))
  have stays : ∀ {c : Addr} {v : Option Value}, H c = none → s.heap.IsCell c v → h₁.IsCell c v := fun {c v} n ⟨o, ho, hdt⟩ => by
    obtain ⟨sl, there'⟩ := un.any ho n (by simp)
    exact ⟨_, kp _ _ there', hdt⟩
  have nox : ∀ b : Addr, b ∉ (lamCx X A outer s1 HZ E sc f k).ex := fun b z => absurd (show b ∈ ([] : List Addr) from z) (by simp)
  have okk : (lamCx X A outer s1 HZ E sc f k).Ok :=
    { mod := e0.mod, kind := L.kind, glob := rfl, blt := rfl, above := Nat.le_refl _
      inj := fun y z c a b => I.ok.inj y z c (old a) (old b)
      has := fun y hy => by
        rcases (show sc.names.lookup y = some .cell ∨ sc.names.lookup y = some .free from hy) with z | z
        · exact absurd rfl (L.cells _ (PySem.mem_of_lookup z))
        · exact there z
      cab := fun y c z _ => Bool.noConfusion (show false = true from z)
      hd := fun _ => hd, frames := Around.frames_deeper e0.frames, stk := .inr ⟨rfl, rfl⟩, exf := fun b z => absurd z (nox b), bs := e0.bs, bsz := e0.bsz, noex := fun b _ _ => nox b, exfs := fun b z => absurd z (nox b), funs := e0.funs, frf := e0.frf }
  refine { ok := okk, os := rfl, bare := e0.bare, base := Un.kept kp, loc := ⟨_, ns, fun i y v a b c => ?_⟩, cell := fun y c e => ?_, free := e0.hok.fresh (Nat.le_refl _), freeC := fun y c e => ?_,
           pin := fun q hq => absurd (show q ∈ ([] : List (Addr × Obj)) ++ [] from hq) (by simp), hok := e0.hok.kept kp, len := I.len }
  · rcases (show Vis sc y from c) with z | z | z
    · exact absurd (List.mem_of_getElem? a) (L.own _ (PySem.mem_of_lookup z) rfl)
    · exact absurd rfl (L.cells _ (PySem.mem_of_lookup z))
    · obtain ⟨m, _, hl⟩ := I.loc
      have fr := L.free _ (PySem.mem_of_lookup z) rfl
      obtain ⟨u, r, q⟩ := hl i y v a b (fr.elim (fun e => .inr (.inl e)) (fun e => .inr (.inr e)))
      obtain ⟨c2, h2⟩ := there z
      refine ⟨u, r, .inr ⟨.inr z, c2, h2, ?_⟩⟩
      have c1 := old h2
      rcases q with ⟨w, _⟩ | ⟨_, c3, w, hc⟩
      · have w' : X.env.scope.names.lookup y = some .local := w
        rcases fr with e | e <;> rw [show X.env.scope.names.lookup y = _ from e] at w' <;> cases w'
      · rw [c1] at w
        cases w
        exact stays (I.freeC y _ c1) hc
  · obtain ⟨u, z⟩ := I.cell y c (old e)
    exact ⟨u, stays (I.freeC y c (old e)) z⟩
  · obtain ⟨u, o, ho, _⟩ := I.cell y c (old e)
    exact un.free c o ho (I.freeC y c (old e)) (by simp)
/-- x(), where x is the lambda -/
theorem pe_actD {CXo : CXT} {Eo : XK} {Nn : List Str} {qlg : Str} {scg : Scope} {g f k t0 : Addr} {cog pm doc ct : Value} {nm : Str} {pars : Arguments} {bdy : Expr} {sc : Scope} {lv i : Nat} {a : Str} {pn : List (Addr × Obj)} {xe : Value → Shared → Prop} {W : WX} {E : XK} {tb : TE} {p1 p2 : Pos} {dv : List Value} {bs : List (Str × Value)}
    (I : Inv X pins σ H s) (hnm : nm = X.env.qual ++ "<lambda>") (L : LamD X.env.scope sc X.N) (ht : s.heap.get? t0 = some (PySem.W.kdv_tup dv)) (htn : H t0 = none) (htf : t0 ∉ frs X.stack)
    (hf : s.heap.get? f = some (PySem.W.kdv_obj "<lambda>" nm pars (.expr bdy) sc (cloFrom X.env.cells sc.names []) (.ref t0) doc pm k ct)) (hfn : H f = none) (hff : f ∉ frs X.stack)
    (hb : ∀ (h : Heap) (o : Obj), h.get? t0 = some o → o.data = .seq dv.toArray → ∀ s : Shared, s.heap = h → BindsTo s (PySem.W.kdv_fn "<lambda>" nm pars (.expr bdy) sc (cloFrom X.env.cells sc.names []) (.ref t0) doc pm (.ref k) ct) ⟨[], []⟩ bs) (hloc : ∀ y ∈ bs, sc.names.lookup y.1 = some .local)
    (tk : Takes ((cxOf CXo X.prog X.w X.K X.mg X.base Nn qlg scg g cog X.A X.stack s H Eo).tr pn xe) W) (hW : ∀ cls d σ' H', E cls d H' → W cls d σ' H') (hr : Room (lv + 1) (X.A.deeper (envOfC qlg scg s.heap.objs.size g cog)))
    (hbody : ∀ (A : Around) (outer : List Env) (s : Shared) (H : Hp), Room lv (A.deeper (lamEnv X sc s.heap.objs.size f k)) → PE (lamCx X A outer s H E sc f k) bdy tb)
    (hN : Nn[i]? = some a) (hv : Vis scg a) (hd : (a == ("__debug__" : Str)) = false := by decide) (hcd : (a == ("__classdict__" : Str)) = false := by decide) :
    PE ((cxOf CXo X.prog X.w X.K X.mg X.base Nn qlg scg g cog X.A X.stack s H Eo).tr pn xe) (.Call (.Name a p1) [] [] p2)
      (fun σZ HZ Q => σZ[i]? = some (some (.ref f)) ∧ HZ k = some (CodeO k nm) ∧ tb σ HZ Q) := by
  subst hnm
  refine ⟨fun pinsZ sZ σZ HZ Q IZ ⟨hs, hc, ht2⟩ => ?_⟩
  refine wpAny_Call_Name_kw (thn ((pe_var (pos := p1) (i := i) hN hv hd hcd).run pinsZ sZ σZ HZ (fun v H1 => v = .ref f ∧ H1 = HZ) IZ ⟨.ref f, hs, rfl, rfl⟩) fun u s1 ⟨v, H1, I1, r1, ev, eH⟩ => ?_)
  subst ev
  subst eH
  obtain rfl : u = .ref f := (r1 : u = Value.ref f)
  have no : ∀ b : Addr, b ∉ ([] : List Addr) := fun b => by simp
  have un : Un (frs X.stack) [] H H1 s.heap s1.heap := I1.base
  have of1 := un.keep f _ hf hfn hff (no f)
  have ot1 := un.keep t0 _ ht htn htf (no t0)
  refine PySem.W.callWith_F0 ⟨_, _, _, _, of1⟩ ?_
  obtain ⟨⟨oc, vs, t, hoc, hdc, hvc⟩, _, _⟩ := I1.hok k _ hc
  have rc : codeAny (model X.prog X.w) (X.A.deeper (envOfC qlg scg s.heap.objs.size g cog)) (.call (.ref f) ⟨[], []⟩) (CR (L2.CX X.prog X.w) (envOfC qlg scg s.heap.objs.size g cog :: X.stack) X.prog X.w H1 s1 Q E) s1 := by
    refine PySem.W.kla_callFunE hr.depth of1 rfl L.co L.gen rfl ⟨k, oc, vs, t, rfl, hoc, hdc, hvc⟩ (hb _ _ ot1 rfl s1 rfl _ _ _ _ ?_)
    refine wpAny_newFunctionEnv L.cells hloc (fun h₁ ns sb => ⟨I1.nolimit.fresh _ sb, ?_⟩) L.kind
    show codeAny _ _ (.expr bdy (lamEnv X sc s1.heap.objs.size f k)) _ _
    have kp : ∀ b o, s1.heap.get? b = some o → h₁.get? b = some o := fun b o e => sb.extBut b o (Nat.ne_of_lt (Heap.lt_size e)) (Heap.get?_push_of_some _ e)
    have J : Inv (lamCx X (X.A.deeper (envOfC qlg scg s.heap.objs.size g cog)) (envOfC qlg scg s.heap.objs.size g cog :: X.stack) s1 H1 E sc f k) [] σ H1 { s1 with heap := h₁, toks := s1.toks + bs.length } :=
      lamD_start I L I1.env0 hr.hd un ns kp
    refine PySem.W.kla_codeExpr (wpAny_mono ((hbody _ _ s1 H1 (hr.deeper _)).run [] _ _ H1 Q J ht2) (fun v s' ⟨w', H', J', rv, q⟩ => ?_) fun e s' hq => hq)
    exact ⟨w', H', J'.os, J'.bare, J'.base, J'.hok, rv, (by exact q)⟩
  have hx : Passes (L2.CX X.prog X.w) ((cxOf CXo X.prog X.w X.K X.mg X.base Nn qlg scg g cog X.A X.stack s H Eo).tr pn xe) E := passes_call tk hW
  refine wpAny_call (codeAny_mono rc fun out s' hq => ?_)
  match out, hq with
  | .error e, hq => exact hx pinsZ σZ H1 s1 e s' I1 hq
  | .ok (.ret u), hq => exact I1.after hq
  | .ok .next, hq => exact False.elim hq
  | .ok .brk, hq => exact False.elim hq
  | .ok .cont, hq => exact False.elim hq
end
end K46

set_option Elab.async false
set_option linter.all false
set_option maxRecDepth 100000
set_option maxHeartbeats 4000000
/-! x(lambda b=0: body), as a whole. -/
namespace K46
open PySem PySem.Spec PyProof.Rows L2 LamX
section
variable {X : Cx}
theorem pe_lamD {Tb : List (Addr × Str)} {TT : (XK → Hp → VK → Prop) → Hp → VK → Prop} {x a nb : Str} {g c P : Addr} {lv j : Nat} {n : Int} {pg : Arguments} {bg : List Stmt} {scg : Scope} {dV kV doc pm cdv ct oc : Value} {an od : Option Addr} {osl : Array (Option Value)} {Nn : List Str}
    {pars : Arguments} {bdy : Expr} {sc : Scope} {t : XK → TE} {p lpos pos cp : Pos} (hg : Gl X x) (hm : X.mg x = some (.ref g)) (hk : PySem.W.keepIn X.K (.ref g) = true)
    (there : X.K.lookup g = some ⟨oc, od, .func (PySem.W.fnOf x x pg bg scg dV kV doc pm an cdv ct), osl⟩) (coded : PySem.W.codeIn X.K cdv x = true) (hb : L2.Binds X.K (PySem.W.fnOf x x pg bg scg dV kV doc pm an cdv ct) [a] []) (Sg : FnScope Nn [a] scg) (hNn : Nn[0]? = some a) (hva : Vis scg a)
    (hG : GivesTo X Nn x scg g cdv bg a (X.env.qual ++ "<lambda>") TT)
    (tab : TabB X.base X.mg c P) (hcode : X.env.code = .ref c) (hin : (P, X.env.qual ++ "<lambda>") ∈ Tb) (hone : ∀ z ∈ Tb, z.1 = P → z.2 = X.env.qual ++ "<lambda>") (hr : Room (lv + 2) X.A) (L : LamD X.env.scope sc X.N)
    (hd : pars.defaults = [.Constant (.int n) j cp]) (hkd : pars.kw_defaults = []) (hloc : sc.names.lookup nb = some .local)
    (hbind : ∀ (q : Str) (cl : List (Str × Addr)) (pm doc cv ctv : Value) (t0 : Addr) (tk : Tok) (h : Heap) (o : Obj), h.get? t0 = some o → o.data = .seq [Value.int n tk].toArray → ∀ s : Shared, s.heap = h →
      BindsTo s (PySem.W.kdv_fn "<lambda>" q pars (.expr bdy) sc cl (.ref t0) doc pm cv ctv) ⟨[], []⟩ [(nb, .int n tk)])
    (hbody : ∀ (A : Around) (outer : List Env) (s : Shared) (H : Hp) (E : XK) (f c' : Addr), Room lv (A.deeper (lamEnv X sc s.heap.objs.size f c')) → PE (lamCx X A outer s H E sc f c') bdy (t E))
    (hdb : (x == ("__debug__" : Str)) = false := by decide) (hda : (a == ("__debug__" : Str)) = false := by decide) (hcd : (a == ("__classdict__" : Str)) = false := by decide) :
    PE X (.Call (.Name x p) [.Lambda pars bdy sc lpos] [] pos) (tLam Tb TT t) := by
  refine ⟨fun pins s σ H Q I ⟨hT, h⟩ => ?_⟩
  refine wpAny_Call_Name_kw (ld_glob I hg hm ?_ hdb)
  refine PySem.W.callWith_K (h₀ := X.base) I.ok.mod.kin hk ?_ (by rfl) (by rfl)
  show wpAny _ _ (spliced ((false, eval (.Lambda pars bdy sc lpos) X.env) :: backTo pos (starEach [] X.env))) _ _ s
  refine Calls.spliced_cons (lam_dflt I tab hcode hin hone hT (L.has I.ok) hd hkd fun f k t0 pm' doc' ctv tk H1 s' I1 eN T1 ht htn htf hf hfn hff hco => Calls.spliced_nil ⟨I1.kIn, ?_⟩)
  have rc : codeAny (model X.prog X.w) X.A (.call (.ref g) ⟨[.ref f], []⟩) (CR C8.CX0 X.stack X.prog X.w H1 s' Q C8.E0) s' := by
    refine run_ofS (N := Nn) (ps := [a]) (us := [.ref f]) (vs := [.ref f]) there coded Sg hr I1.env0 (hb s' [.ref f] I1.kIn rfl) (.cons rfl .nil) rfl fun hr' => ?_
    obtain ⟨t', ht', hq'⟩ := hG f k s' H1 Q (fun E H' Q' => t E σ H' Q')
      (fun W pn xe E p1 p2 tk' hW => pe_actD (i := 0) (bs := [(nb, .int n tk)]) I1 rfl L ht htn htf hf hfn hff (fun h o ho hdt s es => hbind _ _ _ _ _ _ _ _ h o ho hdt s es) (fun y hy => by
        rw [List.mem_singleton.mp hy]
        exact hloc) tk' hW hr' (fun A outer s H hr2 => hbody A outer s H E f k hr2) hNn hva hda hcd) hco (h H1 eN T1)
    exact ⟨t', ht'.nox, hq'⟩
  refine wpAny_call (codeAny_mono rc fun out s2 hq => ?_)
  match out, hq with
  | .error e, hq => exact (show False from hq).elim
  | .ok (.ret u), hq => exact I1.after hq
  | .ok .next, hq => exact False.elim hq
  | .ok .brk, hq => exact False.elim hq
  | .ok .cont, hq => exact False.elim hq
end
end K46

set_option Elab.async false
set_option linter.all false
set_option maxRecDepth 100000
set_option maxHeartbeats 4000000
/-! _law_j_is_int. -/
namespace K46
open PySem PySem.Spec PyProof.Rows L2 LamX
abbrev sIsInt : Stmt := topS 33
section
variable {P : Program} {w : World} {K : PySem.W.Frag} {mg : Str → Option Value} {base : Heap}
def spIsInt : Sp := fun vs H Q _ => ∃ i : Int, vs = [.int i] ∧ Q (.bl true) H
theorem scII : FnScope ["value"] ["value"] (defScope sIsInt) := ⟨rfl, rfl, rfl, by decide +kernel, rfl, by decide +kernel, by decide +kernel⟩
theorem ok_isInt {f : Addr} {fd : FuncData} (F : Fun K "_law_j_is_int" "_law_j_is_int" sIsInt f fd) (B : Blt mg) : FnOk P w K mg base CX0 1 f fd ["value"] spIsInt := by
  refine F.ok scII (fun vs H Q E h => ?_) (fun cdv A outer s H vs Q E hr h => ?_)
  · obtain ⟨i, rfl, _⟩ := h
    rfl
  · obtain ⟨i, rfl, q⟩ := h
    refine ⟨_, pss_one (ps_ret (pe_and (pe_callB call_isi (by rfl) B.isi (by decide +kernel) (pa_cons (pv 0) (pa_cons (pe_bltn (v := .ty "int") (by rfl) B.int (by decide +kernel) rfl) pa_nil)))
      (pe_one (pe_not (pe_callB call_isi (by rfl) B.isi (by decide +kernel) (pa_cons (pv 0) (pa_cons (pe_bltn (v := .ty "bool") (by rfl) B.bool (by decide +kernel) rfl) pa_nil))))))), ?_⟩
    refine ⟨_, rfl, .int i, .ty "int", _, .type "int", _, rfl, .ty _, .base (.int i), kit_ty (by decide +kernel : kitB "int" "int" = some true), _, rfl, iteT ?_⟩
    refine ⟨_, rfl, .int i, .ty "bool", _, .type "bool", _, rfl, .ty _, .base (.int i), kit_ty (by decide +kernel : kitB "int" "bool" = some false), _, rfl, ?_⟩
    exact q
end
end K46

set_option Elab.async false
set_option linter.all false
set_option maxRecDepth 100000
set_option maxHeartbeats 8000000
/-! law: its walk. -/
namespace K46
open PySem PySem.Spec PyProof.Rows L2 LamX
abbrev sLaw : Stmt := topS 42
abbrev nsLaw : List Str := ["script", "pen", "lap", "tests", "deeds", "program", "told", "a", "odd", "item"]
theorem scLaw : FnScope nsLaw ["script"] (defScope sLaw) := ⟨rfl, rfl, rfl, by decide +kernel, rfl, by decide +kernel, by decide +kernel⟩
def lamDB (outer inner : Scope) (N : List Str) : Bool :=
  decide (inner.kind = .function) && !inner.isCoroutine && !inner.isGenerator && inner.names.all fun y => !decide (y.2 = .cell) && (!decide (y.2 = .local) || !N.contains y.1) && (!decide (y.2 = .free) || decide (outer.names.lookup y.1 = some .cell) || decide (outer.names.lookup y.1 = some .free))
theorem lamD_by {outer inner : Scope} {N : List Str} (h : lamDB outer inner N = true) : LamD outer inner N := by
  unfold lamDB at h
  simp only [Bool.and_eq_true, Bool.or_eq_true, Bool.not_eq_true', decide_eq_true_eq, decide_eq_false_iff_not, List.all_eq_true] at h
  obtain ⟨⟨⟨h1, h2⟩, h3⟩, h4⟩ := h
  refine ⟨h1, h2, h3, fun y hy => (h4 y hy).1.1, fun y hy e hm => ?_, fun y hy e => ?_⟩
  · rcases (h4 y hy).1.2 with z | z
    · exact z e
    · rw [List.contains_iff_mem.mpr hm] at z
      cases z
  · rcases (h4 y hy).2 with (z | z) | z
    · exact absurd e z
    · exact .inl z
    · exact .inr z
def wtK (x : Nat × Nat × Nat) : D := .tup [.num (x.1 : Nat), .num (x.2.1 : Nat), .num (x.2.2 : Nat)]
theorem wt_at {H : Hp} {t : Addr} {x : Nat × Nat × Nat} (e : H t = some (.tup (wtD x))) : At H (wtK x) (.ref t) := .tup e (.cons (.num _) (.cons (.num _) (.cons (.num _) .nil)))
theorem Made.sml {k : Nat} {p : Pr} (m : Made k p) (h : k ≤ 6) : Sml p := ⟨m.ok, Nat.le_trans m.hg h, by have := m.sz; omega, by have := m.dep; omega⟩
theorem tbl_but {H H' : Hp} {a tb : Addr} {n : Nat} (p : PenAt H a n) (b : But a H H') (h : H tb = some (.tbl #[])) : H' tb = some (.tbl #[]) := b _ _ (fun z => by
  obtain ⟨l, cells, pos, g, f, c, h1, _⟩ := p
  rw [z, h1] at h
  cases h) h
/-- what the law asks about that is no program -/
structure Odd (d : D) : Prop where
  no : isProg d = false
  sz : sz d ≤ 1000
  show_ : d.data.showable = true
  len : d.data.shown.length ≤ 1000
  dep : d.depth ≤ 60
  txt : txtOk d.data.shown = true
theorem mem7 {α : Type} {v a b c d e f g : α} (h : v ∈ [a, b, c, d, e, f, g]) : v = a ∨ v = b ∨ v = c ∨ v = d ∨ v = e ∨ v = f ∨ v = g := by simpa using h
/-- a def of the top keeps its promise, and how it is called -/
structure Got (P : Program) (w : World) (K : PySem.W.Frag) (mg : Str → Option Value) (base : Heap) (CX : CXT) (k : Nat) (x : Str) (ps : List Str) (sp : Sp) : Prop where
  ex : ∃ (f : Addr) (fd : FuncData), FnOk P w K mg base CX k f fd ps sp ∧ PySem.W.keepIn K (.ref f) = true ∧ mg x = some (.ref f) ∧ Binds K fd ps []
structure Parts (P : Program) (w : World) (K : PySem.W.Frag) (mg : Str → Option Value) (base : Heap) (C fI : Addr) : Prop where
  T : PySem.SupX.SupTxt P K mg "BadProgram" C fI
  B : Blt mg
  B2 : Blt2 mg
  pen : Got P w K mg base CX0 1 "_law_pen" ["script"] (spPen K)
  draw : Got P w K mg base CX0 1 "_law_draw" ["pen", "many"] spDraw
  pick : Got P w K mg base CX0 2 "_law_pick" ["pen", "some"] spPick
  names : Got P w K mg base CX0 3 "_law_names" ["pen"] spLNames
  prog : Got P w K mg base CX0 9 "_law_j_program" ["pen", "tests", "deeds", "size"] (spLProg 6)
  weight : Got P w K mg base (L2.CX P w) 6 "weight" ["program"] (spWeight C)
  lweight : Got P w K mg base CX0 1 "_law_weight" ["program"] spLWeight
  isint : Got P w K mg base CX0 1 "_law_j_is_int" ["value"] spIsInt
  changes : Got P w K mg base (L2.CX P w) 11 "changes" ["program"] (spChanges C)
  lchanges : Got P w K mg base CX0 8 "_law_changes" ["program"] spLChanges
  heard : ∃ (f : Addr) (oc : Value) (od : Option Addr) (dV kV doc pm cdv ct : Value) (an : Option Addr) (osl : Array (Option Value)), mg "_law_heard" = some (.ref f) ∧ PySem.W.keepIn K (.ref f) = true ∧
    K.lookup f = some ⟨oc, od, .func (PySem.W.fnOf "_law_heard" "_law_heard" (defArgs sHeard) (defBody sHeard) (defScope sHeard) dV kV doc pm an cdv ct), osl⟩ ∧ PySem.W.codeIn K cdv "_law_heard" = true ∧
    Binds K (PySem.W.fnOf "_law_heard" "_law_heard" (defArgs sHeard) (defBody sHeard) (defScope sHeard) dV kV doc pm an cdv ct) ["call"] []
section
variable {P : Program} {w : World} {K : PySem.W.Frag} {mg : Str → Option Value} {base : Heap} {C fI : Addr}
theorem law_walk (T : Parts P w K mg base C fI) {f c tb a : Addr} {A : Around} {outer : List Env} {s : Shared} {H : Hp} {E : XK} {ns : List Int} (tab : TabB base mg c tb) (hgd : A.guards = some []) (ht : H tb = some (.tbl #[])) (hS : SqL K H a (ns.map V.int))
    (hr : Room 13 (A.deeper (envOfC "law" (defScope sLaw) s.heap.objs.size f (.ref c)))) :
    ∃ t, PSs (cxOf CX0 P w K mg base nsLaw "law" (defScope sLaw) f (.ref c) A outer s H E).nox (defBody sLaw) t ∧ t { nx := fun _ H' => (fun v _ => v = V.bl true) V.non H', rt := fun v _ => v = .bl true } (L2.start nsLaw [.ref a]) H := by
  obtain ⟨fp, fdp, Gpen, kpen, gpen, bpen⟩ := T.pen.ex
  obtain ⟨fd9, fdd, Gdraw, kdraw, gdraw, bdraw⟩ := T.draw.ex
  obtain ⟨fk, fdk, Gpick, kpick, gpick, bpick⟩ := T.pick.ex
  obtain ⟨fn, fdn, Gnames, knames, gnames, bnames⟩ := T.names.ex
  obtain ⟨fj, fdj, Gprog, kprog, gprog, bprog⟩ := T.prog.ex
  obtain ⟨fw, fdw, Gweight, kweight, gweight, bweight⟩ := T.weight.ex
  obtain ⟨fl, fdl, Glw, klw, glw, blw⟩ := T.lweight.ex
  obtain ⟨fi, fdi, Gint, kint, gint, bint⟩ := T.isint.ex
  obtain ⟨fc, fdc, Gch, kch, gch, bch⟩ := T.changes.ex
  obtain ⟨fe, fde, Glc, klc, glc, blc⟩ := T.lchanges.ex
  obtain ⟨fh, oc, od, dV, kV, doc, pm, cdv, ct, an, osl, gh, kh, lh, ch, bh⟩ := T.heard
  have B := T.B
  have B2 := T.B2
  have hr1 := hr.mono (show 1 ≤ 13 by decide)
  have hr2 := hr.mono (show 2 ≤ 13 by decide)
  have hr3 := hr.mono (show 3 ≤ 13 by decide)
  have hr6 := hr.mono (show 6 ≤ 13 by decide)
  have hr8 := hr.mono (show 8 ≤ 13 by decide)
  have hr9 := hr.mono (show 9 ≤ 13 by decide)
  have hr11 := hr.mono (show 11 ≤ 13 by decide)
  have hg2 := guards_deeper A (envOfC "law" (defScope sLaw) s.heap.objs.size f (.ref c)) hgd
  have hu3 : (A.deeper (envOfC "law" (defScope sLaw) s.heap.objs.size f (.ref c))).units + 300 < cLine := by
    have := hr.un
    omega
  refine ⟨_, pss_cons (ps_set (i := 1) scLaw.nd rfl (.inl rfl) (pe_call Gpen hr1 (by rfl) gpen kpen bpen .nil pass0 (pa_cons (pv 0) pa_nil)))
    (pss_cons (ps_cut (ps_for PassesOwn.never rfl (pi_range1 rfl B.range (pa_cons pe_int pa_nil)) (pg_name (i := 2) scLaw.nd rfl (.inl rfl))
      (pss_cons (ps_asg (pe_call Gnames hr3 (by rfl) gnames knames bnames .nil pass0 (pa_cons (pv 1) pa_nil)) (pg_tup rfl (pgs_cons (pg_name (i := 3) scLaw.nd rfl (.inl rfl)) (pgs_cons (pg_name (i := 4) scLaw.nd rfl (.inl rfl)) pgs_nil))))
      (pss_cons (ps_set (i := 5) scLaw.nd rfl (.inl rfl) (pe_call Gprog hr9 (by rfl) gprog kprog bprog .nil pass0 (pa_cons (pv 1) (pa_cons (pv 3) (pa_cons (pv 4) (pa_cons (pe_op op_add pe_int (pe_call Gdraw hr1 (by rfl) gdraw kdraw bdraw .nil pass0 (pa_cons (pv 1) (pa_cons pe_int pa_nil)))) pa_nil))))))
      (pss_cons (ps_set (i := 6) scLaw.nd rfl (.inl rfl) (pe_callS Gweight hr6 (by rfl) gweight kweight bweight (fun σ => passAt L2.takes0 σ) (by exact (pa_cons (pv 5) pa_nil))))
      (pss_cons (ps_if (PW.pt (pw_or (pt_cmpR (op_neD hr.units) (pv 6) (pe_call Glw hr1 (by rfl) glw klw blw .nil pass0 (pa_cons (pv 5) pa_nil)) (nomark _))
          (pw_or (pt_not (pt_val (pe_callB call_isi (by rfl) B.isi (by decide +kernel) (pa_cons (pv 6) (pa_cons (pe_bltn (v := .ty "tuple") (by rfl) B.tup (by decide +kernel) rfl) pa_nil)))))
          (pw_or1 (pt_cmpR (op_neD hr.units) (pe_lc (own := [("item", 9)]) (g := gName 9) (tt := tNot (tB (tCall spIsInt [] E0 (tCons (tVar 9) tNil)))) (te := tC (.int 1)) rfl scLaw.nd (pi_tup (pv 6)) (blkOk_by (N := nsLaw) (sc := defScope sLaw) (by decide +kernel)) (fun _ _ _ _ _ => pg_name (i := 9) scLaw.nd rfl (Or.inl rfl))
            (fun _ _ _ _ _ => pts_one (pt_not (pt_val (pe_call Gint hr1 (by rfl) gint kint bint .nil pass0 (pa_cons (pv 9) pa_nil))))) (fun _ _ _ _ _ => pe_int)) (pe_lst pa_nil) (nomark _)))))) (pss_one (ps_ret pe_bl)) pss_nil)
      (pss_one (ps_if (pt_cmpR (op_neD hr.units) (pe_callS Gch hr11 (by rfl) gch kch bch (fun σ => passAt L2.takes0 σ) (by exact (pa_cons (pv 5) pa_nil))) (pe_callTy call_tuple_of (by rfl) B.tup (by rfl) (pa_cons (pe_call Glc hr8 (by rfl) glc klc blc .nil pass0 (pa_cons (pv 5) pa_nil)) pa_nil)) (nomark _)) (pss_one (ps_ret pe_bl)) pss_nil))))))))
    (pss_cons (ps_set (i := 7) scLaw.nd rfl (.inl rfl) (pe_tup (pa_cons pe_str (pa_cons pe_str pa_nil))))
    (pss_cons (ps_cut (ps_if (PW.pt (pw_or (pt_cut (pt_cmpR (op_neD hr.units) (pe_callS Gch hr11 (by rfl) gch kch bch (fun σ => passAt L2.takes0 σ) (by exact (pa_cons (pe_tup (pa_cons pe_str pa_nil)) pa_nil))) (pe_tup pa_nil) (nomark _)))
        (pw_or (pt_cut (pt_cmpR (op_neD hr.units) (pe_callS Gch hr11 (by rfl) gch kch bch (fun σ => passAt L2.takes0 σ) (by exact (pa_cons (pv 7) pa_nil))) (pe_tup (pa_cons (pe_tup (pa_cons pe_str pa_nil)) (pa_cons (pe_tup (pa_cons pe_str pa_nil)) pa_nil))) (nomark _)))
        (pw_or1 (pt_cmpR (op_neD hr.units) (pe_callS Gch hr11 (by rfl) gch kch bch (fun σ => passAt L2.takes0 σ) (by exact (pa_cons (pe_tup (pa_cons pe_str (pa_cons (pv 7) pa_nil))) pa_nil)))
          (pe_tup (pa_cons (pe_tup (pa_cons pe_str pa_nil)) (pa_cons (pe_tup (pa_cons pe_str pa_nil)) (pa_cons (pv 7) (pa_cons (pe_tup (pa_cons pe_str (pa_cons (pe_tup (pa_cons pe_str pa_nil)) pa_nil))) (pa_cons (pe_tup (pa_cons pe_str (pa_cons (pe_tup (pa_cons pe_str pa_nil)) pa_nil))) pa_nil)))))) (nomark _)))))) (pss_one (ps_ret pe_bl)) pss_nil))
    (pss_cons (ps_cut (ps_set (i := 8) scLaw.nd rfl (.inr rfl) (pe_call Gpick hr2 (by rfl) gpick kpick bpick .nil pass0 (pa_cons (pv 1) (pa_cons (pe_lst (pa_cons pe_non (pa_cons pe_int (pa_cons pe_str (pa_cons (pe_tup (pa_cons pe_str pa_nil)) (pa_cons (pe_tup (pa_cons pe_str (pa_cons (pv 7) pa_nil)))
        (pa_cons (pe_tup (pa_cons pe_str (pa_cons (pv 7) (pa_cons (pv 7) pa_nil)))) (pa_cons (pe_tup (pa_cons pe_str (pa_cons pe_str pa_nil))) pa_nil)))))))) pa_nil)))))
    (pss_one (ps_ret (pe_and
      (pe_cmpR (op_eqD hr.units) (pe_lamcall (T := [(tb, _)]) (Ng := nsHd) (a := "call") (k := 11) (t := fun E => tCallS (spChanges C) (WE fun cls d _ H => E cls d H) (tCons (tVar 8) tNil)) (by rfl) gh kh lh ch bh scHd rfl (.inl rfl) (heard_gives T.T hg2 hu3 B.repr) tab rfl (List.mem_singleton.mpr rfl)
          (fun z hz _ => by rw [List.mem_singleton.mp hz]) hr (lamS_by (show lamSB (defScope sLaw) _ = true by decide +kernel)) rfl (fun _ _ _ _ _ => rfl)
          (fun A outer s H E f c' hr' => pe_callS Gch hr' (by rfl) gch kch bch (fun σ => passAt (takes_of (E := E) rfl rfl rfl rfl) σ) (by exact (pa_cons (pv 8) pa_nil))))
        (pe_tup (pa_cons pe_str (pa_cons (pe_callB (call_repr_at hg2 (by exact Nat.lt_of_le_of_lt (Nat.add_le_add_left (by decide : 100 ≤ 300) _) hu3)) (by rfl) B.repr (by decide +kernel) (pa_cons (pv 8) pa_nil)) pa_nil))) (nomark _))
      (pe_one (pe_cmpR (op_eqD hr.units) (pe_lamD (Tb := [(tb, _)]) (Nn := nsHd) (a := "call") (nb := "b") (lv := 11) (t := fun E => tCallS (spWeight C) (WE fun cls d _ H => E cls d H) (tCons (tVar 8) tNil)) (by rfl) gh kh lh ch bh scHd rfl (.inl rfl) (heard_gives T.T hg2 hu3 B.repr) tab rfl (List.mem_singleton.mpr rfl)
          (fun z hz _ => by rw [List.mem_singleton.mp hz]) hr (lamD_by (show lamDB (defScope sLaw) _ nsLaw = true by decide +kernel)) rfl rfl rfl (fun q cl pm doc cv ctv t0 tk h o ho hs s es => BindsTo.of_defaults (T := t0) rfl (by rw [es]; exact ho) hs (by exact rfl) (by exact rfl))
          (fun A outer s H E f c' hr' => pe_callS Gweight (hr'.mono (show 6 ≤ 11 by decide)) (by rfl) gweight kweight bweight (fun σ => passAt (takes_of (E := E) rfl rfl rfl rfl) σ) (by exact (pa_cons (pv 8) pa_nil))))
        (pe_tup (pa_cons pe_str (pa_cons (pe_callB (call_repr_at hg2 (by exact Nat.lt_of_le_of_lt (Nat.add_le_add_left (by decide : 100 ≤ 300) _) hu3)) (by rfl) B.repr (by decide +kernel) (pa_cons (pv 8) pa_nil)) pa_nil))) (nomark _)))))))))), ?_⟩
  have sl : ∀ n : Nat, n ≤ 1000 → n ≤ sizeLine := fun n h => Nat.le_of_lt (small1000 h)
  refine ⟨_, rfl, a, ns, rfl, hS, fun H1 p s1 np pp => ?_⟩
  have t1 := s1 _ _ ht
  refine ⟨fun σ H' => ∃ x2 x3 x4 x5 x6 x9 : Option V, σ = [some (.ref a), some (.ref p), x2, x3, x4, x5, x6, none, none, x9] ∧ PenAt H' p (3 * 1500) ∧ H' tb = some (.tbl #[]), ⟨3, rfl, by decide, by decide, ?_⟩, ?_⟩
  refine for_range (n := 3) (fun i σ H' => ∃ x2 x3 x4 x5 x6 x9 : Option V, σ = [some (.ref a), some (.ref p), x2, x3, x4, x5, x6, none, none, x9] ∧ PenAt H' p (i * 1500) ∧ H' tb = some (.tbl #[])) ⟨none, none, none, none, none, none, rfl, pp, t1⟩ ?_ (fun σ H' h => h)
  · rintro i σ H2 hi ⟨x2, x3, x4, x5, x6, x9, rfl, p2, t2⟩
    -- tests, deeds
    refine ⟨_, rfl, p, i * 1500, rfl, p2, by omega, fun H3 tt lt ld ts ds b3 et mt md nz p3 => ?_⟩
    refine ⟨tt, _, rfl, SqT.of et, rfl, _, _, rfl, _, _, rfl, rfl, ?_⟩
    have t3 := tbl_but p2 b3 t2
    -- program
    refine ⟨_, rfl, _, rfl, _, rfl, _, rfl, p, i * 1500 + 2, 6, rfl, p3, by omega, by decide, by decide, fun H4 r hr9 b4 p4 => ?_⟩
    have t4 := tbl_but p3 b4 t3
    have e6 : nB 6 = 1456 := by decide
    have hcast : ((1 : Int) + (r : Int)) = ((1 + r : Nat) : Int) := by omega
    refine ⟨_, _, rfl, rfl, p, lt, ld, i * 1500 + 2 + 1, 1 + r, ts, ds, by rw [← hcast]; rfl, by omega, by omega, p4, by omega, mt.but p3 b4, md.but p3 b4, nz, fun H5 pr v mk av b5 p5 => ?_⟩
    have t5 := tbl_but p4 b5 t4
    have sm := mk.sml (by omega)
    have hsz := sm.sz
    have hsz3 := szP_sz pr
    have hprog := isProg_enc pr sm.ok
    have p5' := p5.mono (show i * 1500 + 2 + 1 + nB 6 ≤ (i + 1) * 1500 by omega)
    -- told
    refine ⟨_, rfl, encP pr, v, rfl, av, by omega, fun z => absurd (hprog.symm.trans z) (by decide), fun _ => ⟨pr, rfl, sm.ok, by omega, fun H6 t6 s6 n6 e6' => ?_⟩⟩
    have av6 := av.tm (TM.same s6)
    -- the first test
    refine ⟨_, rfl, _, rfl, pr, v, rfl, av6, sm.sz, sm.dep, fun H7 t7 s7 n7 e7 => ?_⟩
    have a6 := wt_at (s7 _ _ e6')
    have a7 := wt_at e7
    refine ⟨_, _, a6.dp, a7.dp, a6.shaped (by simp [wtK, NestedKey.depth, NestedKey.depthAll]), a7.shaped (by simp [wtK, NestedKey.depth, NestedKey.depthAll]), _, rfl, ?_⟩
    rw [eqv_data, decide_eq_true rfl]
    refine iteF ?_
    -- isinstance(told, tuple)
    refine ⟨_, rfl, .ref t6, .ty "tuple", _, .type "tuple", _, rfl, .ty _, .base (.tup (s7 _ _ e6')), kit_ty (by decide +kernel : kitB "tuple" "tuple" = some true), _, rfl, ?_⟩
    refine iteF ?_
    -- [1 for item in told if ..] != []
    have e67 := s7 _ _ e6'
    refine ⟨_, rfl, t6, rfl, ⟨_, SqT.of e67⟩, fun D1 nD1 => ?_⟩
    refine lc_it (walk_tup (K := K) (a := t6) (xs := wtD (wt pr))) (fun i H' => Same H7 H' ∧ H' D1 = some (.lst [])) ⟨same_new nD1, upd_same⟩ (fun i H' _ ⟨sm, _⟩ => SqT.of (sm _ _ e67)) ?_ ?_
    · rintro j x H8 H9 hj ⟨sm8, hD⟩ ⟨rfl, hx⟩
      obtain ⟨z, rfl⟩ : ∃ z : Int, x = .int z := by
        match j, hx with
        | 0, hx => cases hx; exact ⟨_, rfl⟩
        | 1, hx => cases hx; exact ⟨_, rfl⟩
        | 2, hx => cases hx; exact ⟨_, rfl⟩
      exact ⟨rfl, _, rfl, z, rfl, _, rfl, iteF ⟨sm8, hD⟩⟩
    rintro H8 ⟨s8, hD⟩
    refine ⟨sl 0 (by decide), fun e9 n9 => ?_⟩
    have s9 := same_new (H := H8) (o := .lst []) n9
    refine ⟨_, _, .lst (SqL.of (s9 _ _ hD)) .nil, .lst (SqL.of upd_same) .nil, rfl, rfl, _, rfl, ifF (by decide +kernel) ?_⟩
    generalize upd H8 e9 (.lst []) = H9 at s9
    have s69 := s7.trans (s8.trans s9)
    have av9 := av6.tm (TM.same s69)
    -- changes(program) != tuple(_law_changes(program))
    refine ⟨_, rfl, encP pr, v, rfl, av9, by omega, fun z => absurd (hprog.symm.trans z) (by decide), fun _ => ⟨pr, rfl, sm, fun H10 t10 us10 s10 n10 e10 a10 => ?_⟩⟩
    refine ⟨_, rfl, pr, v, rfl, av9.tm (TM.same s10), sm, fun H11 l11 us11 s11 n11 e11 a11 => ⟨l11, us11, rfl, .inl ⟨SqL.of e11, fun t12 n12 => ?_⟩⟩⟩
    have s12 := same_new (H := H11) (o := .tup us11) n12
    have hdl : NestedKey.depthAll ((lightCh pr).map encP) ≤ 8 := depthAll_le (m := 8) fun d hd => by
      obtain ⟨x, hx, rfl⟩ := List.mem_map.mp hd
      exact Nat.le_trans (allCh_fine pr x (lighterP_mem hx)).2.2 sm.dep
    have hdt : NestedKey.depth (.tup ((lightCh pr).map encP)) ≤ 64 := by
      simp only [NestedKey.depth]
      omega
    have b10 : At (upd H11 t12 (.tup us11)) (.tup ((lightCh pr).map encP)) (.ref t10) := .tup ((s11.trans s12) _ _ e10) (a10.tm (TM.same (s11.trans s12)))
    have b12 : At (upd H11 t12 (.tup us11)) (.tup ((lightCh pr).map encP)) (.ref t12) := .tup upd_same (a11.tm (TM.same s12))
    refine ⟨_, _, b10.dp, b12.dp, b10.shaped hdt, b12.shaped hdt, _, rfl, ?_⟩
    rw [eqv_data, decide_eq_true rfl]
    have s512 := s6.trans (s69.trans (s10.trans (s11.trans s12)))
    exact iteF ⟨_, _, _, _, _, _, rfl, p5'.same s512, s512 _ _ t5⟩
  · rintro σ H2 ⟨x2, x3, x4, x5, x6, x9, rfl, p2, t2⟩
    -- a
    refine ⟨sl 2 (by decide), fun ta na => ?_⟩
    have sa := same_new (H := H2) (o := .tup [.str "deed", .str "a"]) na
    have ea : (upd H2 ta (.tup [.str "deed", .str "a"])) ta = some (.tup [.str "deed", .str "a"]) := upd_same
    generalize upd H2 ta (.tup [.str "deed", .str "a"]) = H3 at sa ea
    have aa : At H3 (encP (.deed "a")) (.ref ta) := .tup ea (.cons (.text "deed" (by decide +kernel)) (.cons (.text "a" (by decide +kernel)) .nil))
    have p3 := p2.same sa
    have t3 := sa _ _ t2
    refine ⟨fun σ' H' => ∃ x2 x3 x4 x5 x6 x9 : Option V, σ' = [some (.ref a), some (.ref p), x2, x3, x4, x5, x6, some (.ref ta), none, x9] ∧ Same H3 H', ?_, ?_⟩
    · -- changes(('skip',)) != ()
      refine ⟨fun z H' => z = false ∧ Same H3 H', ?_, ?_⟩
      · refine ⟨sl 1 (by decide), fun u1 m1 => ?_⟩
        have c1 := same_new (H := H3) (o := .tup [.str "skip"]) m1
        have q1 : At (upd H3 u1 (.tup [.str "skip"])) (encP .skip) (.ref u1) := .tup upd_same (.cons (.text "skip" (by decide +kernel)) .nil)
        generalize upd H3 u1 (.tup [.str "skip"]) = H4 at c1 q1
        refine ⟨encP .skip, .ref u1, rfl, q1, by decide, fun z => absurd z (by decide +kernel), fun _ => ⟨.skip, rfl, ⟨rfl, by decide, by decide, by decide⟩, fun H5 t5 us5 s5 n5 e5 a5 => ?_⟩⟩
        refine ⟨sl 0 (by decide), fun u6 m6 => ?_⟩
        have c6 := same_new (H := H5) (o := .tup []) m6
        have el : lightCh .skip = [] := by decide +kernel
        rw [el] at a5
        have b5 : At (upd H5 u6 (.tup [])) (.tup []) (.ref t5) := .tup (c6 _ _ e5) (a5.tm (TM.same c6))
        have b6 : At (upd H5 u6 (.tup [])) (.tup []) (.ref u6) := .tup upd_same .nil
        refine ⟨_, _, b5.dp, b6.dp, b5.shaped (by decide), b6.shaped (by decide), _, rfl, ?_⟩
        rw [eqv_data, decide_eq_true rfl]
        exact ⟨rfl, c1.trans (s5.trans c6)⟩
      rintro z H4 ⟨rfl, c4⟩
      refine iteF ?_
      -- changes(a) != (('skip',), ('stop',))
      refine ⟨fun z H' => z = false ∧ Same H3 H', ?_, ?_⟩
      · refine ⟨_, rfl, encP (.deed "a"), .ref ta, rfl, aa.tm (TM.same c4), by decide, fun z => absurd z (by decide +kernel), fun _ => ⟨.deed "a", rfl, ⟨by decide +kernel, by decide, by decide, by decide⟩, fun H5 t5 us5 s5 n5 e5 a5 => ?_⟩⟩
        refine ⟨sl 1 (by decide), fun u1 m1 => ⟨sl 1 (by decide), fun u2 m2 => ⟨sl 2 (by decide), fun u3 m3 => ?_⟩⟩⟩
        have c1 := same_new (H := H5) (o := .tup [.str "skip"]) m1
        have c2 := same_new (H := upd H5 u1 (.tup [.str "skip"])) (o := .tup [.str "stop"]) m2
        have c3 := same_new (H := upd (upd H5 u1 (.tup [.str "skip"])) u2 (.tup [.str "stop"])) (o := .tup [.ref u1, .ref u2]) m3
        have q1 : At _ (encP .skip) (.ref u1) := .tup ((c2.trans c3) _ _ upd_same) (.cons (.text "skip" (by decide +kernel)) .nil)
        have q2 : At _ (encP .stop) (.ref u2) := .tup (c3 _ _ upd_same) (.cons (.text "stop" (by decide +kernel)) .nil)
        have q3 : At _ (.tup [encP .skip, encP .stop]) (.ref u3) := .tup upd_same (.cons q1 (.cons q2 .nil))
        have c13 := c1.trans (c2.trans c3)
        have el : lightCh (.deed "a") = [.skip, .stop] := by decide +kernel
        rw [el] at a5
        have b5 : At _ (.tup [encP .skip, encP .stop]) (.ref t5) := .tup (c13 _ _ e5) (a5.tm (TM.same c13))
        refine ⟨_, _, b5.dp, q3.dp, b5.shaped (by decide), q3.shaped (by decide), _, rfl, ?_⟩
        rw [eqv_data, decide_eq_true rfl]
        exact ⟨rfl, c4.trans (s5.trans c13)⟩
      rintro z H5 ⟨rfl, c5⟩
      refine iteF ?_
      -- changes(('loop', a)) != (...)
      have aa5 := aa.tm (TM.same c5)
      refine ⟨_, rfl, sl 2 (by decide), fun u0 m0 => ?_⟩
      have c0 := same_new (H := H5) (o := .tup [.str "loop", .ref ta]) m0
      have q0 : At (upd H5 u0 (.tup [.str "loop", .ref ta])) (encP (.loop (.deed "a"))) (.ref u0) := .tup upd_same (.cons (.text "loop" (by decide +kernel)) (.cons (aa5.tm (TM.same c0)) .nil))
      generalize upd H5 u0 (.tup [.str "loop", .ref ta]) = H6 at c0 q0
      refine ⟨encP (.loop (.deed "a")), .ref u0, rfl, q0, by decide, fun z => absurd z (by decide +kernel), fun _ => ⟨.loop (.deed "a"), rfl, ⟨by decide +kernel, by decide, by decide, by decide⟩, fun H7 t7 us7 s7 n7 e7 a7 => ?_⟩⟩
      have aa7 := aa5.tm (TM.same (c0.trans s7))
      refine ⟨sl 1 (by decide), fun u1 m1 => ⟨sl 1 (by decide), fun u2 m2 => ⟨_, rfl, sl 1 (by decide), fun u3 m3 => ⟨sl 2 (by decide), fun u4 m4 => ⟨sl 1 (by decide), fun u5 m5 => ⟨sl 2 (by decide), fun u6 m6 => ⟨sl 5 (by decide), fun u7 m7 => ?_⟩⟩⟩⟩⟩⟩⟩
      have c1 := same_new (o := .tup [.str "skip"]) m1
      have c2 := same_new (o := .tup [.str "stop"]) m2
      have c3 := same_new (o := .tup [.str "skip"]) m3
      have c4' := same_new (o := .tup [.str "loop", .ref u3]) m4
      have c5' := same_new (o := .tup [.str "stop"]) m5
      have c6 := same_new (o := .tup [.str "loop", .ref u5]) m6
      have c7 := same_new (o := .tup [.ref u1, .ref u2, .ref ta, .ref u4, .ref u6]) m7
      have c67 := c6.trans c7
      have c57 := c5'.trans c67
      have c47 := c4'.trans c57
      have c37 := c3.trans c47
      have c27 := c2.trans c37
      have c17 := c1.trans c27
      have q1 : At _ (encP .skip) (.ref u1) := .tup (c27 _ _ upd_same) (.cons (.text "skip" (by decide +kernel)) .nil)
      have q2 : At _ (encP .stop) (.ref u2) := .tup (c37 _ _ upd_same) (.cons (.text "stop" (by decide +kernel)) .nil)
      have q3 : At _ (encP .skip) (.ref u3) := .tup (c47 _ _ upd_same) (.cons (.text "skip" (by decide +kernel)) .nil)
      have q4 : At _ (encP (.loop .skip)) (.ref u4) := .tup (c57 _ _ upd_same) (.cons (.text "loop" (by decide +kernel)) (.cons q3 .nil))
      have q5 : At _ (encP .stop) (.ref u5) := .tup (c67 _ _ upd_same) (.cons (.text "stop" (by decide +kernel)) .nil)
      have q6 : At _ (encP (.loop .stop)) (.ref u6) := .tup (c7 _ _ upd_same) (.cons (.text "loop" (by decide +kernel)) (.cons q5 .nil))
      have q7 : At _ (.tup [encP .skip, encP .stop, encP (.deed "a"), encP (.loop .skip), encP (.loop .stop)]) (.ref u7) := .tup upd_same (.cons q1 (.cons q2 (.cons (aa7.tm (TM.same c17)) (.cons q4 (.cons q6 .nil)))))
      have el : lightCh (.loop (.deed "a")) = [.skip, .stop, .deed "a", .loop .skip, .loop .stop] := by decide +kernel
      rw [el] at a7
      have b7 : At _ (.tup [encP .skip, encP .stop, encP (.deed "a"), encP (.loop .skip), encP (.loop .stop)]) (.ref t7) := .tup (c17 _ _ e7) (a7.tm (TM.same c17))
      refine ⟨_, _, b7.dp, q7.dp, b7.shaped (by decide), q7.shaped (by decide), _, rfl, ?_⟩
      rw [eqv_data, decide_eq_true rfl]
      exact iteF ⟨_, _, _, _, _, _, rfl, c5.trans (c0.trans (s7.trans c17))⟩
    · rintro σ H4 ⟨x2, x3, x4, x5, x6, x9, rfl, s4⟩
      have p4 := p3.same s4
      have t4 := s4 _ _ t3
      have aa4 := aa.tm (TM.same s4)
      refine ⟨fun σ' H' => ∃ (d : D) (v : V) (x2 x3 x4 x5 x6 x9 : Option V), σ' = [some (.ref a), some (.ref p), x2, x3, x4, x5, x6, some (.ref ta), some v, x9] ∧ At H' d v ∧ Odd d ∧ H' tb = some (.tbl #[]), ?_, ?_⟩
      · refine ⟨_, rfl, sl 1 (by decide), fun u4 m4 => ⟨_, rfl, sl 2 (by decide), fun u5 m5 => ⟨_, rfl, _, rfl, sl 3 (by decide), fun u6 m6 => ⟨sl 2 (by decide), fun u7 m7 => ⟨sl 7 (by decide), fun ul ml => ?_⟩⟩⟩⟩⟩
        have c4 := same_new (o := .tup [.str "deed"]) m4
        have c5 := same_new (o := .tup [.str "then", .ref ta]) m5
        have c6 := same_new (o := .tup [.str "while", .ref ta, .ref ta]) m6
        have c7 := same_new (o := .tup [.str "deed", .str "if"]) m7
        have cl := same_new (o := .lst [.non, .int 3, .str "a", .ref u4, .ref u5, .ref u6, .ref u7]) ml
        have c7l := c7.trans cl
        have c6l := c6.trans c7l
        have c5l := c5.trans c6l
        have c4l := c4.trans c5l
        have aaL := aa4.tm (TM.same c4l)
        have q4 : At _ (.tup [.text "deed"]) (.ref u4) := .tup (c5l _ _ upd_same) (.cons (.text "deed" (by decide +kernel)) .nil)
        have q5 : At _ (.tup [.text "then", encP (.deed "a")]) (.ref u5) := .tup (c6l _ _ upd_same) (.cons (.text "then" (by decide +kernel)) (.cons aaL .nil))
        have q6 : At _ (.tup [.text "while", encP (.deed "a"), encP (.deed "a")]) (.ref u6) := .tup (c7l _ _ upd_same) (.cons (.text "while" (by decide +kernel)) (.cons aaL (.cons aaL .nil)))
        have q7 : At _ (.tup [.text "deed", .text "if"]) (.ref u7) := .tup (cl _ _ upd_same) (.cons (.text "deed" (by decide +kernel)) (.cons (.text "if" (by decide +kernel)) .nil))
        refine ⟨p, ul, 3 * 1500, _, rfl, p4.same c4l, by decide, upd_same, by show 0 < 7; decide, by show 7 < 1000; decide, fun H6 v hv b6 p6 => ?_⟩
        have tm := (p4.same c4l).tm b6
        have t6 := tbl_but (p4.same c4l) b6 (c4l _ _ t4)
        rcases mem7 hv with rfl | rfl | rfl | rfl | rfl | rfl | rfl
        · exact ⟨.none, _, _, _, _, _, _, _, rfl, .none, ⟨by decide +kernel, by decide +kernel, by decide +kernel, by decide +kernel, by decide +kernel, by decide +kernel⟩, t6⟩
        · exact ⟨.num 3, _, _, _, _, _, _, _, rfl, .num 3, ⟨by decide +kernel, by decide +kernel, by decide +kernel, by decide +kernel, by decide +kernel, by decide +kernel⟩, t6⟩
        · exact ⟨.text "a", _, _, _, _, _, _, _, rfl, .text "a" (by decide +kernel), ⟨by decide +kernel, by decide +kernel, by decide +kernel, by decide +kernel, by decide +kernel, by decide +kernel⟩, t6⟩
        · exact ⟨_, _, _, _, _, _, _, _, rfl, q4.tm tm, ⟨by decide +kernel, by decide +kernel, by decide +kernel, by decide +kernel, by decide +kernel, by decide +kernel⟩, t6⟩
        · exact ⟨_, _, _, _, _, _, _, _, rfl, q5.tm tm, ⟨by decide +kernel, by decide +kernel, by decide +kernel, by decide +kernel, by decide +kernel, by decide +kernel⟩, t6⟩
        · exact ⟨_, _, _, _, _, _, _, _, rfl, q6.tm tm, ⟨by decide +kernel, by decide +kernel, by decide +kernel, by decide +kernel, by decide +kernel, by decide +kernel⟩, t6⟩
        · exact ⟨_, _, _, _, _, _, _, _, rfl, q7.tm tm, ⟨by decide +kernel, by decide +kernel, by decide +kernel, by decide +kernel, by decide +kernel, by decide +kernel⟩, t6⟩
      · rintro σ H5 ⟨d, v, x2, x3, x4, x5, x6, x9, rfl, ad, od, t5⟩
        have T0 : Tabs [(tb, (cxOf CX0 P w K mg base nsLaw "law" (defScope sLaw) f (.ref c) A outer s H E).nox.env.qual ++ "<lambda>")] H5 := fun z hz => by
          rw [List.mem_singleton.mp hz]
          exact TabS.nil t5
        have extT : ∀ {Ha Hb : Hp}, ExtN Ha Hb → TM Ha Hb := fun e b xs h => e b _ h (fun ps z => nomatch z)
        have dd64 : ∀ x : D, NestedKey.depth (.tup [.text "program", .text x.data.shown]) ≤ 64 := fun x => by simp [NestedKey.depth, NestedKey.depthAll]
        refine ⟨T0, fun H6 e6 T6 => ?_⟩
        have ad6 := ad.tm (extT e6)
        refine ⟨_, rfl, d, v, rfl, ad6, od.sz, fun _ => ?_, fun z => absurd (od.no.symm.trans z) (by decide)⟩
        intro H7 dd s7 nd7
        have sd := same_new (H := H7) (o := .xd [(("value" : Str), v)]) nd7
        have ad7 := ad6.tm (TM.same (s7.trans sd))
        refine ⟨rfl, dd, v, rfl, upd_same, d, v, rfl, ad7, od.show_, od.len, od.dep, sl 2 (by decide), fun t8 n8 => ?_⟩
        generalize upd H7 dd (.xd [(("value" : Str), v)]) = H8 at sd ad7 n8
        have s9 := same_new (H := H8) (o := .tup [.str "program", .str d.data.shown]) n8
        have ad9 := ad7.tm (TM.same s9)
        -- ('program', repr(odd))
        refine ⟨_, rfl, d, v, rfl, ad9, od.show_, od.len, od.dep, sl 2 (by decide), fun t10 n10 => ?_⟩
        have s10 := same_new (H := upd H8 t8 (.tup [.str "program", .str d.data.shown])) (o := .tup [.str "program", .str d.data.shown]) n10
        have e8 := s10 _ _ (upd_same (H := H8) (a := t8) (o := .tup [.str "program", .str d.data.shown]))
        have e10 : (upd (upd H8 t8 (.tup [.str "program", .str d.data.shown])) t10 (.tup [.str "program", .str d.data.shown])) t10 = some (.tup [.str "program", .str d.data.shown]) := upd_same
        have s610 := s7.trans (sd.trans (s9.trans s10))
        generalize upd (upd H8 t8 (.tup [.str "program", .str d.data.shown])) t10 (.tup [.str "program", .str d.data.shown]) = H10 at e8 e10 s610
        have b8 : At H10 (.tup [.text "program", .text d.data.shown]) (.ref t8) := .tup e8 (.cons (.text "program" (by decide +kernel)) (.cons (.text _ od.txt) .nil))
        have b10 : At H10 (.tup [.text "program", .text d.data.shown]) (.ref t10) := .tup e10 (.cons (.text "program" (by decide +kernel)) (.cons (.text _ od.txt) .nil))
        refine ⟨_, _, b8.dp, b10.dp, b8.shaped (dd64 d), b10.shaped (dd64 d), _, rfl, ?_⟩
        rw [eqv_data, decide_eq_true rfl]
        refine iteT ?_
        have T10 : Tabs [(tb, (cxOf CX0 P w K mg base nsLaw "law" (defScope sLaw) f (.ref c) A outer s H E).nox.env.qual ++ "<lambda>")] H10 := T6.ext fun b o e => s610 b o e
        have ad10 := ad6.tm (TM.same s610)
        clear b8 b10 e8 e10 n10 n8 s9 s10
        refine ⟨T10, fun H11 e11 T11 => ?_⟩
        have ad11 := ad10.tm (extT e11)
        refine ⟨_, rfl, d, v, rfl, ad11, od.sz, fun _ => ?_, fun z => absurd (od.no.symm.trans z) (by decide)⟩
        intro H12 dd2 s12 nd12
        have sd2 := same_new (H := H12) (o := .xd [(("value" : Str), v)]) nd12
        have ad12 := ad11.tm (TM.same (s12.trans sd2))
        refine ⟨rfl, dd2, v, rfl, upd_same, d, v, rfl, ad12, od.show_, od.len, od.dep, sl 2 (by decide), fun t13 n13 => ?_⟩
        generalize upd H12 dd2 (.xd [(("value" : Str), v)]) = H13 at sd2 ad12 n13
        have s14 := same_new (H := H13) (o := .tup [.str "program", .str d.data.shown]) n13
        have ad14 := ad12.tm (TM.same s14)
        refine ⟨_, rfl, d, v, rfl, ad14, od.show_, od.len, od.dep, sl 2 (by decide), fun t15 n15 => ?_⟩
        have s15 := same_new (H := upd H13 t13 (.tup [.str "program", .str d.data.shown])) (o := .tup [.str "program", .str d.data.shown]) n15
        have e13 := s15 _ _ (upd_same (H := H13) (a := t13) (o := .tup [.str "program", .str d.data.shown]))
        have e15 : (upd (upd H13 t13 (.tup [.str "program", .str d.data.shown])) t15 (.tup [.str "program", .str d.data.shown])) t15 = some (.tup [.str "program", .str d.data.shown]) := upd_same
        generalize upd (upd H13 t13 (.tup [.str "program", .str d.data.shown])) t15 (.tup [.str "program", .str d.data.shown]) = H15 at e13 e15
        have b13 : At H15 (.tup [.text "program", .text d.data.shown]) (.ref t13) := .tup e13 (.cons (.text "program" (by decide +kernel)) (.cons (.text _ od.txt) .nil))
        have b15 : At H15 (.tup [.text "program", .text d.data.shown]) (.ref t15) := .tup e15 (.cons (.text "program" (by decide +kernel)) (.cons (.text _ od.txt) .nil))
        refine ⟨_, _, b13.dp, b15.dp, b13.shaped (dd64 d), b15.shaped (dd64 d), ?_⟩
        rw [eqv_data, decide_eq_true rfl]
end
end K46

set_option Elab.async false
set_option linter.all false
set_option maxRecDepth 100000
set_option maxHeartbeats 4000000
/-! The entry: the law is called at the caller's own place, where no repr is under way; one table of code objects, and the script, are tracked. -/
namespace K46
open PySem PySem.Spec PyProof.Rows L2 LamX
abbrev tabO : Obj := { cls := .none, data := .fields #[] }
abbrev lstO (vs : List Value) : Obj := { cls := .type "list", data := .seq vs.toArray }
/-- what is tracked at the entry -/
def entryH (K : PySem.W.Frag) (tb a : Addr) (vs : List Value) (ns : List Int) : Hp := fun b =>
  if b = tb then some (.tbl #[]) else if b = a ∧ K.lookup a = none then some (.frz (lstO vs) (.lst (ns.map V.int))) else none
section
variable {P : Program} {w : World} {K : PySem.W.Frag} {mg mb : Str → Option Value} {fa a c tb : Addr} {s₁ : Shared} {vs : List Value} {ns : List Int}
theorem entry_cases {b : Addr} : entryH K tb a vs ns b = none ∨ b = tb ∨ (b = a ∧ K.lookup a = none) := by
  unfold entryH
  by_cases h1 : b = tb
  · exact .inr (.inl h1)
  · by_cases h2 : b = a ∧ K.lookup a = none
    · exact .inr (.inr h2)
    · rw [if_neg h1, if_neg h2]
      exact .inl rfl
/-- an object that is neither the table nor the script is untracked -/
theorem entry_free (hT : s₁.heap.get? tb = some tabO) (ha : s₁.heap.get? a = some (lstO vs)) {b : Addr} {o : Obj} (e : s₁.heap.get? b = some o) (h1 : o ≠ tabO) (h2 : o ≠ lstO vs) : entryH K tb a vs ns b = none := by
  rcases entry_cases (K := K) (tb := tb) (a := a) (vs := vs) (ns := ns) (b := b) with z | z | ⟨z, _⟩
  · exact z
  · rw [z, hT] at e
    exact absurd (Option.some.inj e).symm h1
  · rw [z, ha] at e
    exact absurd (Option.some.inj e).symm h2
theorem not_dict {o : Obj} {es : Array DictEntry} {ep : Nat} (h : o.data = .dict es ep) : o ≠ tabO ∧ o ≠ lstO vs :=
  ⟨fun z => (by rw [z] at h; cases h), fun z => (by rw [z] at h; cases h)⟩
theorem enter_law (KX : K.In s₁.heap) (G : s₁.heap.Ns mainGlobals mg) (B : s₁.heap.Ns builtinsNs mb) (BB : ∀ x : Str, x ≠ "__name__" → mb x = bootBuiltins x) (lim : s₁.heap.NoLimit) (gen : s₁.gens = #[])
    (hT : s₁.heap.get? tb = some tabO) (nT : K.lookup tb = none) (C : PySem.W.CodeHd s₁.heap c tb)
    (hm : ∃ (bm : Addr) (ob : Obj), mg "__builtins__" = some (.ref bm) ∧ bm ≠ builtinsNs ∧ s₁.heap.get? bm = some ob ∧ ob.cls = .type "module" ∧ ob.dict = some builtinsNs ∧ ob.data = .plain)
    (ha : s₁.heap.get? a = some (lstO vs)) (hi : IntsAre vs ns) (hl : ns.length ≤ sizeLine)
    (go : ∀ (H : Hp) (base : Heap), H tb = some (.tbl #[]) → SqL K H a (ns.map V.int) → K.In base → base.Ns mainGlobals mg → TabB base mg c tb → Env0 P w K mg base callerA [] s₁ H →
      codeAny (model P w) callerA (.call (.ref fa) ⟨[.ref a], []⟩) (CR C8.CX0 [] P w H s₁ (fun v _ => v = .bl true) C8.E0) s₁) :
    codeAny (model P w) callerA (.call (.ref fa) ⟨[.ref a], []⟩) (fun r s' => r = .ok (.ret (.bool true)) ∧ OldK s₁.heap s'.heap ∧ s'.os = s₁.os ∧ AllBare s'.gens) s₁ := by
  have rv := vals_ints hi
  have len : vs.length = ns.length := hi.length
  have tba : tb ≠ a := fun z => by
    rw [z, ha] at hT
    cases hT
  generalize hH : entryH K tb a vs ns = H
  have free := fun {b : Addr} {o : Obj} (e : s₁.heap.get? b = some o) (h1 : o ≠ tabO) (h2 : o ≠ lstO vs) => hH ▸ entry_free (K := K) (ns := ns) hT ha e h1 h2
  have Ht : H tb = some (.tbl #[]) := by
    rw [← hH]
    exact if_pos rfl
  have ok : HOk P w H s₁.heap := fun b o e => by
    rw [← hH] at e
    unfold entryH at e
    split at e
    · rename_i z
      cases e
      rw [z]
      exact hT
    · split at e
      · rename_i z
        cases e
        rw [z.1]
        exact ⟨ha, (List.length_map (f := V.int) (as := ns)).symm ▸ hl, vs, _, rv, ha⟩
      · cases e
  have hS : SqL K H a (ns.map V.int) := by
    cases hk : K.lookup a with
    | none =>
      refine .inl (.inr ⟨lstO vs, ?_⟩)
      rw [← hH]
      exact (if_neg (Ne.symm tba)).trans (if_pos ⟨rfl, hk⟩)
    | some o =>
      have e := KX a o hk
      rw [ha] at e
      cases e
      exact .inr ⟨_, vs.toArray, _, hk, rfl, rfl, rfl, by rw [List.size_toArray, len]; exact hl, by simpa using rv⟩
  have inB : K.In (hidT s₁.heap H) := fun b o e => hidT_get (KX b o e) (by
    rcases entry_cases (K := K) (tb := tb) (a := a) (vs := vs) (ns := ns) (b := b) with z | z | ⟨z, z2⟩
    · rw [← hH]
      exact z
    · rw [z, nT] at e
      cases e
    · rw [z, z2] at e
      cases e)
  have nsB : ∀ {b : Addr} {m : Str → Option Value}, s₁.heap.Ns b m → (hidT s₁.heap H).Ns b m := fun {b m} n => by
    obtain ⟨o, es, ep, e, d, r⟩ := n
    obtain ⟨n1, n2⟩ := not_dict (vs := vs) d
    exact ⟨o, es, ep, hidT_get e (free e n1 n2), d, r⟩
  have modB : L2.Mod K mg (hidT s₁.heap H) := by
    obtain ⟨mc, l1, l2⟩ := lim
    exact ⟨inB, nsB G, ⟨mb, nsB B, BB⟩, ⟨mc, nsB l1, l2⟩⟩
  have tabB : TabB (hidT s₁.heap H) mg c tb := by
    obtain ⟨o, us, file, tf, flags, tg, inF, text, tt, e1, r1, r2, r3, r4⟩ := C
    obtain ⟨bm, ob, b1, b2, b3, b4, b5, b6⟩ := hm
    have oc : entryH K tb a vs ns c = none := entry_free hT ha e1 (fun z => by
      rw [z] at r2
      cases r2
      simp at r3) (fun z => by
      rw [z] at r2
      cases r2)
    have om : entryH K tb a vs ns bm = none := entry_free hT ha b3 (fun z => by
      rw [z] at b6
      cases b6) (fun z => by
      rw [z] at b6
      cases b6)
    rw [hH] at oc om
    refine ⟨⟨o, us, file, tf, flags, tg, inF, text, tt, hidT_get e1 oc, r1, r2, r3, r4⟩, ⟨bm, ob, b1, b2, fun z => ?_, fun z => ?_, hidT_get b3 om, b4, b5, b6⟩, fun z => ?_⟩
    · obtain ⟨og, es, ep, e, d, _⟩ := G
      rw [z, e] at b3
      cases b3
      rw [d] at b6
      cases b6
    · rw [z, Ht] at om
      cases om
    · obtain ⟨og, es, ep, e, d, _⟩ := G
      rw [z, hT] at e
      cases e
      cases d
  have e0 : Env0 P w K mg (hidT s₁.heap H) callerA [] s₁ H :=
    ⟨rfl, modB, fun b o e => of_hidT e, Nat.le_of_eq (hidT_size _ _), trivial, fun b z => absurd (show b ∈ ([] : List Addr) from z) (by simp), ok, .of_eq gen⟩
  refine codeAny_mono (go H _ Ht hS inB (nsB G) tabB e0) fun r s' h => ?_
  match r, h with
  | .error e, h => exact False.elim h
  | .ok .next, h => exact False.elim h
  | .ok .brk, h => exact False.elim h
  | .ok .cont, h => exact False.elim h
  | .ok (.ret u), ⟨v, H', os, bare, un, hok', rv', ev⟩ =>
    subst ev
    obtain rfl : u = Value.bool true := rv'
    have no : ∀ b : Addr, b ∉ ([] : List Addr) := fun b => by simp
    obtain ⟨more, z⟩ := un.tbls tb #[] Ht
    have grown : s'.heap.get? tb = some { cls := .none, data := .fields (#[] ++ more) } := hok' tb _ z
    have keep : ∀ b o, b ≠ tb → s₁.heap.get? b = some o → s'.heap.get? b = some o := fun b o nb e => by
      rcases entry_cases (K := K) (tb := tb) (a := a) (vs := vs) (ns := ns) (b := b) with y | y | ⟨y, y2⟩
      · exact un.keep b o e (hH ▸ y) (no b) (no b)
      · exact absurd y nb
      · have q : H b = some (.frz (lstO vs) (.lst (ns.map V.int))) := by
          rw [← hH]
          exact (if_neg nb).trans (if_pos ⟨y, y2⟩)
        obtain ⟨e1, _⟩ := ok b _ q
        obtain ⟨e2, _⟩ := hok' b _ (un.frzs b _ _ q)
        rw [e] at e1
        cases e1
        exact e2
    refine ⟨rfl, ⟨fun b o e => ?_, fun b o e => ?_⟩, os, bare⟩
    · by_cases hb : b = tb
      · subst hb
        rw [hT] at e
        cases e
        exact .inr (.inl ⟨(C.tab hT).isCodeTable, rfl, #[], more, rfl, grown⟩)
      · exact .inl (keep b o hb e)
    · by_cases hb : b = tb
      · subst hb
        exact ⟨_, grown⟩
      · exact ⟨o, keep b o hb e⟩
end
end K46

set_option Elab.async false
set_option linter.all false
set_option maxRecDepth 100000
set_option maxHeartbeats 4000000
/-! From what the top wrote to the parts of the law. -/
namespace K46
open PySem PySem.Spec PyProof.Rows L2 LamX
/-- a def of the top stands at f -/
def Raw (K : PySem.W.Frag) (mg : Str → Option Value) (x : Str) (st : Stmt) (ps : List Str) : Prop := ∃ (f : Addr) (fd : FuncData), Fun K x x st f fd ∧ mg x = some (.ref f) ∧ Binds K fd ps []
theorem raw_mk {K : PySem.W.Frag} {mg : Str → Option Value} {h : Heap} {x : Str} {st : Stmt} {ps : List Str} {f : Addr} {oc : Value} {od an : Option Addr} {osl : Array (Option Value)} {kV doc pm cdv ct : Value} (X : K.In h) (G : h.Ns mainGlobals mg)
    (hb : ∀ (kV doc pm : Value) (an : Option Addr) (cdv ct : Value) (us : List Value), us.length = ps.length → bindArgs (PySem.W.fnOf x x (defArgs st) (defBody st) (defScope st) .none kV doc pm an cdv ct) ⟨us, []⟩ = pure (ps.zip us))
    (a : PySem.W.nsIn K mainGlobals x = some (some (.ref f))) (l : K.lookup f = some ⟨oc, od, .func (PySem.W.fnOf x x (defArgs st) (defBody st) (defScope st) .none kV doc pm an cdv ct), osl⟩)
    (c : PySem.W.codeIn K cdv x = true) (k : PySem.W.keepIn K (.ref f) = true) : Raw K mg x st ps :=
  ⟨f, _, fun_mk l c k, PySem.W.mg_of X G a, (fun_mk (st := st) l c k).binds hb⟩
section
variable {P : Program} {w : World} {K : PySem.W.Frag} {mg : Str → Option Value} {C fI : Addr}
theorem bind_is_name (kV doc pm : Value) (an : Option Addr) (cdv ct : Value) (us : List Value) (hl : us.length = (["value"] : List Str).length) : bindArgs (PySem.W.fnOf "is_name" "is_name" (defArgs sIsName) (defBody sIsName) (defScope sIsName) .none kV doc pm an cdv ct) ⟨us, []⟩ = pure ((["value"] : List Str).zip us) :=
  match us, hl with | [_], _ => rfl
theorem bind_is_head (kV doc pm : Value) (an : Option Addr) (cdv ct : Value) (us : List Value) (hl : us.length = (["value", "heads", "length"] : List Str).length) : bindArgs (PySem.W.fnOf "is_head" "is_head" (defArgs sIsHead) (defBody sIsHead) (defScope sIsHead) .none kV doc pm an cdv ct) ⟨us, []⟩ = pure ((["value", "heads", "length"] : List Str).zip us) :=
  match us, hl with | [_, _, _], _ => rfl
theorem bind_test_parts (kV doc pm : Value) (an : Option Addr) (cdv ct : Value) (us : List Value) (hl : us.length = (["value"] : List Str).length) : bindArgs (PySem.W.fnOf "test_parts" "test_parts" (defArgs sTestParts) (defBody sTestParts) (defScope sTestParts) .none kV doc pm an cdv ct) ⟨us, []⟩ = pure ((["value"] : List Str).zip us) :=
  match us, hl with | [_], _ => rfl
theorem bind_is_test (kV doc pm : Value) (an : Option Addr) (cdv ct : Value) (us : List Value) (hl : us.length = (["value"] : List Str).length) : bindArgs (PySem.W.fnOf "is_test" "is_test" (defArgs sIsTest) (defBody sIsTest) (defScope sIsTest) .none kV doc pm an cdv ct) ⟨us, []⟩ = pure ((["value"] : List Str).zip us) :=
  match us, hl with | [_], _ => rfl
theorem bind_program_parts (kV doc pm : Value) (an : Option Addr) (cdv ct : Value) (us : List Value) (hl : us.length = (["value"] : List Str).length) : bindArgs (PySem.W.fnOf "program_parts" "program_parts" (defArgs sProgParts) (defBody sProgParts) (defScope sProgParts) .none kV doc pm an cdv ct) ⟨us, []⟩ = pure ((["value"] : List Str).zip us) :=
  match us, hl with | [_], _ => rfl
theorem bind_is_program (kV doc pm : Value) (an : Option Addr) (cdv ct : Value) (us : List Value) (hl : us.length = (["value"] : List Str).length) : bindArgs (PySem.W.fnOf "is_program" "is_program" (defArgs sIsProg) (defBody sIsProg) (defScope sIsProg) .none kV doc pm an cdv ct) ⟨us, []⟩ = pure ((["value"] : List Str).zip us) :=
  match us, hl with | [_], _ => rfl
theorem bind_all_parts (kV doc pm : Value) (an : Option Addr) (cdv ct : Value) (us : List Value) (hl : us.length = (["programs", "tests"] : List Str).length) : bindArgs (PySem.W.fnOf "all_parts" "all_parts" (defArgs sAllParts) (defBody sAllParts) (defScope sAllParts) .none kV doc pm an cdv ct) ⟨us, []⟩ = pure ((["programs", "tests"] : List Str).zip us) :=
  match us, hl with | [_, _], _ => rfl
theorem bind_weight_of (kV doc pm : Value) (an : Option Addr) (cdv ct : Value) (us : List Value) (hl : us.length = (["program"] : List Str).length) : bindArgs (PySem.W.fnOf "weight_of" "weight_of" (defArgs sWeightOf) (defBody sWeightOf) (defScope sWeightOf) .none kV doc pm an cdv ct) ⟨us, []⟩ = pure ((["program"] : List Str).zip us) :=
  match us, hl with | [_], _ => rfl
theorem bind_need_program (kV doc pm : Value) (an : Option Addr) (cdv ct : Value) (us : List Value) (hl : us.length = (["program"] : List Str).length) : bindArgs (PySem.W.fnOf "need_program" "need_program" (defArgs sNeed) (defBody sNeed) (defScope sNeed) .none kV doc pm an cdv ct) ⟨us, []⟩ = pure ((["program"] : List Str).zip us) :=
  match us, hl with | [_], _ => rfl
theorem bind_weight (kV doc pm : Value) (an : Option Addr) (cdv ct : Value) (us : List Value) (hl : us.length = (["program"] : List Str).length) : bindArgs (PySem.W.fnOf "weight" "weight" (defArgs sWeight) (defBody sWeight) (defScope sWeight) .none kV doc pm an cdv ct) ⟨us, []⟩ = pure ((["program"] : List Str).zip us) :=
  match us, hl with | [_], _ => rfl
theorem bind_test_place (kV doc pm : Value) (an : Option Addr) (cdv ct : Value) (us : List Value) (hl : us.length = (["program"] : List Str).length) : bindArgs (PySem.W.fnOf "test_place" "test_place" (defArgs sTestPlace) (defBody sTestPlace) (defScope sTestPlace) .none kV doc pm an cdv ct) ⟨us, []⟩ = pure ((["program"] : List Str).zip us) :=
  match us, hl with | [_], _ => rfl
theorem bind_put_in_place (kV doc pm : Value) (an : Option Addr) (cdv ct : Value) (us : List Value) (hl : us.length = (["program", "index", "part"] : List Str).length) : bindArgs (PySem.W.fnOf "put_in_place" "put_in_place" (defArgs sPut) (defBody sPut) (defScope sPut) .none kV doc pm an cdv ct) ⟨us, []⟩ = pure ((["program", "index", "part"] : List Str).zip us) :=
  match us, hl with | [_, _, _], _ => rfl
theorem bind_changed_here (kV doc pm : Value) (an : Option Addr) (cdv ct : Value) (us : List Value) (hl : us.length = (["program"] : List Str).length) : bindArgs (PySem.W.fnOf "changed_here" "changed_here" (defArgs sHere) (defBody sHere) (defScope sHere) .none kV doc pm an cdv ct) ⟨us, []⟩ = pure ((["program"] : List Str).zip us) :=
  match us, hl with | [_], _ => rfl
theorem bind_part_places (kV doc pm : Value) (an : Option Addr) (cdv ct : Value) (us : List Value) (hl : us.length = (["program"] : List Str).length) : bindArgs (PySem.W.fnOf "part_places" "part_places" (defArgs sPlaces) (defBody sPlaces) (defScope sPlaces) .none kV doc pm an cdv ct) ⟨us, []⟩ = pure ((["program"] : List Str).zip us) :=
  match us, hl with | [_], _ => rfl
theorem bind_all_changes (kV doc pm : Value) (an : Option Addr) (cdv ct : Value) (us : List Value) (hl : us.length = (["program"] : List Str).length) : bindArgs (PySem.W.fnOf "all_changes" "all_changes" (defArgs sAllChanges) (defBody sAllChanges) (defScope sAllChanges) .none kV doc pm an cdv ct) ⟨us, []⟩ = pure ((["program"] : List Str).zip us) :=
  match us, hl with | [_], _ => rfl
theorem bind_lighter_of (kV doc pm : Value) (an : Option Addr) (cdv ct : Value) (us : List Value) (hl : us.length = (["program"] : List Str).length) : bindArgs (PySem.W.fnOf "lighter_of" "lighter_of" (defArgs sLighter) (defBody sLighter) (defScope sLighter) .none kV doc pm an cdv ct) ⟨us, []⟩ = pure ((["program"] : List Str).zip us) :=
  match us, hl with | [_], _ => rfl
theorem bind_changes (kV doc pm : Value) (an : Option Addr) (cdv ct : Value) (us : List Value) (hl : us.length = (["program"] : List Str).length) : bindArgs (PySem.W.fnOf "changes" "changes" (defArgs sChanges) (defBody sChanges) (defScope sChanges) .none kV doc pm an cdv ct) ⟨us, []⟩ = pure ((["program"] : List Str).zip us) :=
  match us, hl with | [_], _ => rfl
theorem bind__law_pen (kV doc pm : Value) (an : Option Addr) (cdv ct : Value) (us : List Value) (hl : us.length = (["script"] : List Str).length) : bindArgs (PySem.W.fnOf "_law_pen" "_law_pen" (defArgs sPen) (defBody sPen) (defScope sPen) .none kV doc pm an cdv ct) ⟨us, []⟩ = pure ((["script"] : List Str).zip us) :=
  match us, hl with | [_], _ => rfl
theorem bind__law_draw (kV doc pm : Value) (an : Option Addr) (cdv ct : Value) (us : List Value) (hl : us.length = (["pen", "many"] : List Str).length) : bindArgs (PySem.W.fnOf "_law_draw" "_law_draw" (defArgs sDraw) (defBody sDraw) (defScope sDraw) .none kV doc pm an cdv ct) ⟨us, []⟩ = pure ((["pen", "many"] : List Str).zip us) :=
  match us, hl with | [_, _], _ => rfl
theorem bind__law_pick (kV doc pm : Value) (an : Option Addr) (cdv ct : Value) (us : List Value) (hl : us.length = (["pen", "some"] : List Str).length) : bindArgs (PySem.W.fnOf "_law_pick" "_law_pick" (defArgs sPick) (defBody sPick) (defScope sPick) .none kV doc pm an cdv ct) ⟨us, []⟩ = pure ((["pen", "some"] : List Str).zip us) :=
  match us, hl with | [_, _], _ => rfl
theorem bind__law_test (kV doc pm : Value) (an : Option Addr) (cdv ct : Value) (us : List Value) (hl : us.length = (["pen", "tests", "size"] : List Str).length) : bindArgs (PySem.W.fnOf "_law_test" "_law_test" (defArgs sLTest) (defBody sLTest) (defScope sLTest) .none kV doc pm an cdv ct) ⟨us, []⟩ = pure ((["pen", "tests", "size"] : List Str).zip us) :=
  match us, hl with | [_, _, _], _ => rfl
theorem bind__law_names (kV doc pm : Value) (an : Option Addr) (cdv ct : Value) (us : List Value) (hl : us.length = (["pen"] : List Str).length) : bindArgs (PySem.W.fnOf "_law_names" "_law_names" (defArgs sLNames) (defBody sLNames) (defScope sLNames) .none kV doc pm an cdv ct) ⟨us, []⟩ = pure ((["pen"] : List Str).zip us) :=
  match us, hl with | [_], _ => rfl
theorem bind__law_j_is_int (kV doc pm : Value) (an : Option Addr) (cdv ct : Value) (us : List Value) (hl : us.length = (["value"] : List Str).length) : bindArgs (PySem.W.fnOf "_law_j_is_int" "_law_j_is_int" (defArgs sIsInt) (defBody sIsInt) (defScope sIsInt) .none kV doc pm an cdv ct) ⟨us, []⟩ = pure ((["value"] : List Str).zip us) :=
  match us, hl with | [_], _ => rfl
theorem bind__law_j_program (kV doc pm : Value) (an : Option Addr) (cdv ct : Value) (us : List Value) (hl : us.length = (["pen", "tests", "deeds", "size"] : List Str).length) : bindArgs (PySem.W.fnOf "_law_j_program" "_law_j_program" (defArgs sLProg) (defBody sLProg) (defScope sLProg) .none kV doc pm an cdv ct) ⟨us, []⟩ = pure ((["pen", "tests", "deeds", "size"] : List Str).zip us) :=
  match us, hl with | [_, _, _, _], _ => rfl
theorem bind__law_parts (kV doc pm : Value) (an : Option Addr) (cdv ct : Value) (us : List Value) (hl : us.length = (["program"] : List Str).length) : bindArgs (PySem.W.fnOf "_law_parts" "_law_parts" (defArgs sLParts) (defBody sLParts) (defScope sLParts) .none kV doc pm an cdv ct) ⟨us, []⟩ = pure ((["program"] : List Str).zip us) :=
  match us, hl with | [_], _ => rfl
theorem bind__law_weight (kV doc pm : Value) (an : Option Addr) (cdv ct : Value) (us : List Value) (hl : us.length = (["program"] : List Str).length) : bindArgs (PySem.W.fnOf "_law_weight" "_law_weight" (defArgs sLWeight) (defBody sLWeight) (defScope sLWeight) .none kV doc pm an cdv ct) ⟨us, []⟩ = pure ((["program"] : List Str).zip us) :=
  match us, hl with | [_], _ => rfl
theorem bind__law_at (kV doc pm : Value) (an : Option Addr) (cdv ct : Value) (us : List Value) (hl : us.length = (["program", "path"] : List Str).length) : bindArgs (PySem.W.fnOf "_law_at" "_law_at" (defArgs sLAt) (defBody sLAt) (defScope sLAt) .none kV doc pm an cdv ct) ⟨us, []⟩ = pure ((["program", "path"] : List Str).zip us) :=
  match us, hl with | [_, _], _ => rfl
theorem bind__law_put (kV doc pm : Value) (an : Option Addr) (cdv ct : Value) (us : List Value) (hl : us.length = (["program", "path", "part"] : List Str).length) : bindArgs (PySem.W.fnOf "_law_put" "_law_put" (defArgs sLPut) (defBody sLPut) (defScope sLPut) .none kV doc pm an cdv ct) ⟨us, []⟩ = pure ((["program", "path", "part"] : List Str).zip us) :=
  match us, hl with | [_, _, _], _ => rfl
theorem bind__law_places (kV doc pm : Value) (an : Option Addr) (cdv ct : Value) (us : List Value) (hl : us.length = (["program"] : List Str).length) : bindArgs (PySem.W.fnOf "_law_places" "_law_places" (defArgs sLPlaces) (defBody sLPlaces) (defScope sLPlaces) .none kV doc pm an cdv ct) ⟨us, []⟩ = pure ((["program"] : List Str).zip us) :=
  match us, hl with | [_], _ => rfl
theorem bind__law_changes (kV doc pm : Value) (an : Option Addr) (cdv ct : Value) (us : List Value) (hl : us.length = (["program"] : List Str).length) : bindArgs (PySem.W.fnOf "_law_changes" "_law_changes" (defArgs sLChanges) (defBody sLChanges) (defScope sLChanges) .none kV doc pm an cdv ct) ⟨us, []⟩ = pure ((["program"] : List Str).zip us) :=
  match us, hl with | [_], _ => rfl
/-- all that the top wrote -/
structure Top46 (P : Program) (K : PySem.W.Frag) (mg : Str → Option Value) (C fI : Addr) : Prop where
  T : PySem.SupX.SupTxt P K mg "BadProgram" C fI
  B : Blt mg
  B2 : Blt2 mg
  Cn : Con K mg
  f_is_name : Raw K mg "is_name" sIsName ["value"]
  f_is_head : Raw K mg "is_head" sIsHead ["value", "heads", "length"]
  f_test_parts : Raw K mg "test_parts" sTestParts ["value"]
  f_is_test : Raw K mg "is_test" sIsTest ["value"]
  f_program_parts : Raw K mg "program_parts" sProgParts ["value"]
  f_is_program : Raw K mg "is_program" sIsProg ["value"]
  f_all_parts : Raw K mg "all_parts" sAllParts ["programs", "tests"]
  f_weight_of : Raw K mg "weight_of" sWeightOf ["program"]
  f_need_program : Raw K mg "need_program" sNeed ["program"]
  f_weight : Raw K mg "weight" sWeight ["program"]
  f_test_place : Raw K mg "test_place" sTestPlace ["program"]
  f_put_in_place : Raw K mg "put_in_place" sPut ["program", "index", "part"]
  f_changed_here : Raw K mg "changed_here" sHere ["program"]
  f_part_places : Raw K mg "part_places" sPlaces ["program"]
  f_all_changes : Raw K mg "all_changes" sAllChanges ["program"]
  f_lighter_of : Raw K mg "lighter_of" sLighter ["program"]
  f_changes : Raw K mg "changes" sChanges ["program"]
  f__law_pen : Raw K mg "_law_pen" sPen ["script"]
  f__law_draw : Raw K mg "_law_draw" sDraw ["pen", "many"]
  f__law_pick : Raw K mg "_law_pick" sPick ["pen", "some"]
  f__law_test : Raw K mg "_law_test" sLTest ["pen", "tests", "size"]
  f__law_names : Raw K mg "_law_names" sLNames ["pen"]
  f__law_j_is_int : Raw K mg "_law_j_is_int" sIsInt ["value"]
  f__law_j_program : Raw K mg "_law_j_program" sLProg ["pen", "tests", "deeds", "size"]
  f__law_parts : Raw K mg "_law_parts" sLParts ["program"]
  f__law_weight : Raw K mg "_law_weight" sLWeight ["program"]
  f__law_at : Raw K mg "_law_at" sLAt ["program", "path"]
  f__law_put : Raw K mg "_law_put" sLPut ["program", "path", "part"]
  f__law_places : Raw K mg "_law_places" sLPlaces ["program"]
  f__law_changes : Raw K mg "_law_changes" sLChanges ["program"]
  heard : ∃ (f : Addr) (oc : Value) (od : Option Addr) (dV kV doc pm cdv ct : Value) (an : Option Addr) (osl : Array (Option Value)), mg "_law_heard" = some (.ref f) ∧ PySem.W.keepIn K (.ref f) = true ∧
    K.lookup f = some ⟨oc, od, .func (PySem.W.fnOf "_law_heard" "_law_heard" (defArgs sHeard) (defBody sHeard) (defScope sHeard) dV kV doc pm an cdv ct), osl⟩ ∧ PySem.W.codeIn K cdv "_law_heard" = true ∧
    Binds K (PySem.W.fnOf "_law_heard" "_law_heard" (defArgs sHeard) (defBody sHeard) (defScope sHeard) dV kV doc pm an cdv ct) ["call"] []
theorem parts_all (R : Top46 P K mg C fI) (base : Heap) : Parts P w K mg base C fI := by
  have B := R.B
  have B2 := R.B2
  have Cn := R.Cn
  obtain ⟨a_is_name, d_is_name, F_is_name, g_is_name, b_is_name⟩ := R.f_is_name
  obtain ⟨a_is_head, d_is_head, F_is_head, g_is_head, b_is_head⟩ := R.f_is_head
  obtain ⟨a_test_parts, d_test_parts, F_test_parts, g_test_parts, b_test_parts⟩ := R.f_test_parts
  obtain ⟨a_is_test, d_is_test, F_is_test, g_is_test, b_is_test⟩ := R.f_is_test
  obtain ⟨a_program_parts, d_program_parts, F_program_parts, g_program_parts, b_program_parts⟩ := R.f_program_parts
  obtain ⟨a_is_program, d_is_program, F_is_program, g_is_program, b_is_program⟩ := R.f_is_program
  obtain ⟨a_all_parts, d_all_parts, F_all_parts, g_all_parts, b_all_parts⟩ := R.f_all_parts
  obtain ⟨a_weight_of, d_weight_of, F_weight_of, g_weight_of, b_weight_of⟩ := R.f_weight_of
  obtain ⟨a_need_program, d_need_program, F_need_program, g_need_program, b_need_program⟩ := R.f_need_program
  obtain ⟨a_weight, d_weight, F_weight, g_weight, b_weight⟩ := R.f_weight
  obtain ⟨a_test_place, d_test_place, F_test_place, g_test_place, b_test_place⟩ := R.f_test_place
  obtain ⟨a_put_in_place, d_put_in_place, F_put_in_place, g_put_in_place, b_put_in_place⟩ := R.f_put_in_place
  obtain ⟨a_changed_here, d_changed_here, F_changed_here, g_changed_here, b_changed_here⟩ := R.f_changed_here
  obtain ⟨a_part_places, d_part_places, F_part_places, g_part_places, b_part_places⟩ := R.f_part_places
  obtain ⟨a_all_changes, d_all_changes, F_all_changes, g_all_changes, b_all_changes⟩ := R.f_all_changes
  obtain ⟨a_lighter_of, d_lighter_of, F_lighter_of, g_lighter_of, b_lighter_of⟩ := R.f_lighter_of
  obtain ⟨a_changes, d_changes, F_changes, g_changes, b_changes⟩ := R.f_changes
  obtain ⟨a__law_pen, d__law_pen, F__law_pen, g__law_pen, b__law_pen⟩ := R.f__law_pen
  obtain ⟨a__law_draw, d__law_draw, F__law_draw, g__law_draw, b__law_draw⟩ := R.f__law_draw
  obtain ⟨a__law_pick, d__law_pick, F__law_pick, g__law_pick, b__law_pick⟩ := R.f__law_pick
  obtain ⟨a__law_test, d__law_test, F__law_test, g__law_test, b__law_test⟩ := R.f__law_test
  obtain ⟨a__law_names, d__law_names, F__law_names, g__law_names, b__law_names⟩ := R.f__law_names
  obtain ⟨a__law_j_is_int, d__law_j_is_int, F__law_j_is_int, g__law_j_is_int, b__law_j_is_int⟩ := R.f__law_j_is_int
  obtain ⟨a__law_j_program, d__law_j_program, F__law_j_program, g__law_j_program, b__law_j_program⟩ := R.f__law_j_program
  obtain ⟨a__law_parts, d__law_parts, F__law_parts, g__law_parts, b__law_parts⟩ := R.f__law_parts
  obtain ⟨a__law_weight, d__law_weight, F__law_weight, g__law_weight, b__law_weight⟩ := R.f__law_weight
  obtain ⟨a__law_at, d__law_at, F__law_at, g__law_at, b__law_at⟩ := R.f__law_at
  obtain ⟨a__law_put, d__law_put, F__law_put, g__law_put, b__law_put⟩ := R.f__law_put
  obtain ⟨a__law_places, d__law_places, F__law_places, g__law_places, b__law_places⟩ := R.f__law_places
  obtain ⟨a__law_changes, d__law_changes, F__law_changes, g__law_changes, b__law_changes⟩ := R.f__law_changes
  have G_is_head : FnOk P w K mg base CX0 1 a_is_head d_is_head ["value", "heads", "length"] spHead := ok_head F_is_head B
  have G_is_name : FnOk P w K mg base CX0 1 a_is_name d_is_name ["value"] spName := ok_name F_is_name B Cn
  have G_test_parts : FnOk P w K mg base CX0 2 a_test_parts d_test_parts ["value"] spTParts := ok_tparts F_test_parts F_is_head F_is_name B Cn g_is_head g_is_name b_is_head b_is_name
  have G_is_test : FnOk P w K mg base CX0 3 a_is_test d_is_test ["value"] spIsTest := ok_isTest F_is_test G_test_parts F_test_parts.kp B g_test_parts b_test_parts
  have G_program_parts : FnOk P w K mg base CX0 2 a_program_parts d_program_parts ["value"] spPParts := ok_pparts F_program_parts G_is_head F_is_head.kp G_is_name F_is_name.kp g_is_head g_is_name b_is_head b_is_name
  have G_is_program : FnOk P w K mg base CX0 4 a_is_program d_is_program ["value"] spIsProg := ok_isProg F_is_program G_program_parts F_program_parts.kp G_is_test F_is_test.kp B g_program_parts b_program_parts g_is_test b_is_test
  have G_all_parts : FnOk P w K mg base CX0 3 a_all_parts d_all_parts ["programs", "tests"] spAllParts := ok_allParts F_all_parts G_program_parts F_program_parts.kp G_test_parts F_test_parts.kp B g_program_parts b_program_parts g_test_parts b_test_parts
  have G_weight_of : FnOk P w K mg base CX0 4 a_weight_of d_weight_of ["program"] spWeightOf := ok_weightOf F_weight_of G_all_parts F_all_parts.kp B g_all_parts b_all_parts
  have G_test_place : FnOk P w K mg base CX0 1 a_test_place d_test_place ["program"] spTestPlace := ok_testPlace F_test_place
  have G_put_in_place : FnOk P w K mg base CX0 1 a_put_in_place d_put_in_place ["program", "index", "part"] spPut := ok_put F_put_in_place
  have G_changed_here : FnOk P w K mg base CX0 3 a_changed_here d_changed_here ["program"] spHere := ok_here F_changed_here G_program_parts F_program_parts.kp g_program_parts b_program_parts G_test_place F_test_place.kp g_test_place b_test_place G_put_in_place F_put_in_place.kp g_put_in_place b_put_in_place
  have G_part_places : FnOk P w K mg base CX0 1 a_part_places d_part_places ["program"] spPlaces := ok_places F_part_places
  have G_all_changes : FnOk P w K mg base CX0 9 a_all_changes d_all_changes ["program"] (spAllCh 6) := ok_allCh F_all_changes g_all_changes b_all_changes G_changed_here F_changed_here.kp g_changed_here b_changed_here G_part_places F_part_places.kp g_part_places b_part_places G_put_in_place F_put_in_place.kp g_put_in_place b_put_in_place 6
  have G_need_program : FnOk P w K mg base (L2.CX P w) 5 a_need_program d_need_program ["program"] (spNeed C) := ok_need F_need_program R.T G_is_program F_is_program.kp g_is_program b_is_program
  have G_weight : FnOk P w K mg base (L2.CX P w) 6 a_weight d_weight ["program"] (spWeight C) := ok_weight F_weight G_need_program F_need_program.kp g_need_program b_need_program G_weight_of F_weight_of.kp g_weight_of b_weight_of
  have G_lighter_of : FnOk P w K mg base CX0 10 a_lighter_of d_lighter_of ["program"] spLighter := ok_lighter F_lighter_of B B.tup G_all_changes F_all_changes.kp g_all_changes b_all_changes G_weight_of F_weight_of.kp g_weight_of b_weight_of
  have G_changes : FnOk P w K mg base (L2.CX P w) 11 a_changes d_changes ["program"] (spChanges C) := ok_changes F_changes G_need_program F_need_program.kp g_need_program b_need_program G_lighter_of F_lighter_of.kp g_lighter_of b_lighter_of
  have G__law_pen : FnOk P w K mg base CX0 1 a__law_pen d__law_pen ["script"] (spPen K) := ok_pen F__law_pen B2
  have G__law_draw : FnOk P w K mg base CX0 1 a__law_draw d__law_draw ["pen", "many"] spDraw := ok_draw F__law_draw B2
  have G__law_pick : FnOk P w K mg base CX0 2 a__law_pick d__law_pick ["pen", "some"] spPick := ok_pick F__law_pick B2 G__law_draw F__law_draw.kp g__law_draw b__law_draw
  have G__law_test : FnOk P w K mg base CX0 3 a__law_test d__law_test ["pen", "tests", "size"] spLTest := ok_ltest F__law_test B2 G__law_draw F__law_draw.kp g__law_draw b__law_draw G__law_pick F__law_pick.kp g__law_pick b__law_pick
  have G__law_names : FnOk P w K mg base CX0 3 a__law_names d__law_names ["pen"] spLNames := ok_lnames F__law_names B2 G__law_pick F__law_pick.kp g__law_pick b__law_pick
  have G__law_j_is_int : FnOk P w K mg base CX0 1 a__law_j_is_int d__law_j_is_int ["value"] spIsInt := ok_isInt F__law_j_is_int B
  have G__law_j_program : FnOk P w K mg base CX0 9 a__law_j_program d__law_j_program ["pen", "tests", "deeds", "size"] (spLProg 6) := ok_lprog F__law_j_program g__law_j_program b__law_j_program B2 G__law_draw F__law_draw.kp g__law_draw b__law_draw G__law_pick F__law_pick.kp g__law_pick b__law_pick G__law_test F__law_test.kp g__law_test b__law_test 6
  have G__law_parts : FnOk P w K mg base CX0 1 a__law_parts d__law_parts ["program"] spLParts := ok_lparts F__law_parts
  have G__law_weight : FnOk P w K mg base CX0 1 a__law_weight d__law_weight ["program"] spLWeight := ok_lweight F__law_weight B2
  have G__law_at : FnOk P w K mg base CX0 1 a__law_at d__law_at ["program", "path"] spLAt := ok_lat F__law_at
  have G__law_put : FnOk P w K mg base CX0 7 a__law_put d__law_put ["program", "path", "part"] (spLPut 6) := ok_lput F__law_put g__law_put b__law_put 6
  have G__law_places : FnOk P w K mg base CX0 2 a__law_places d__law_places ["program"] spLPlaces := ok_lplaces F__law_places G__law_at F__law_at.kp g__law_at b__law_at G__law_parts F__law_parts.kp g__law_parts b__law_parts
  have G__law_changes : FnOk P w K mg base CX0 8 a__law_changes d__law_changes ["program"] spLChanges := ok_lchanges F__law_changes G__law_weight F__law_weight.kp g__law_weight b__law_weight G__law_places F__law_places.kp g__law_places b__law_places G__law_at F__law_at.kp g__law_at b__law_at G__law_parts F__law_parts.kp g__law_parts b__law_parts G__law_put F__law_put.kp g__law_put b__law_put
  exact ⟨R.T, B, B2, ⟨⟨_, _, G__law_pen, F__law_pen.kp, g__law_pen, b__law_pen⟩⟩, ⟨⟨_, _, G__law_draw, F__law_draw.kp, g__law_draw, b__law_draw⟩⟩, ⟨⟨_, _, G__law_pick, F__law_pick.kp, g__law_pick, b__law_pick⟩⟩, ⟨⟨_, _, G__law_names, F__law_names.kp, g__law_names, b__law_names⟩⟩, ⟨⟨_, _, G__law_j_program, F__law_j_program.kp, g__law_j_program, b__law_j_program⟩⟩, ⟨⟨_, _, G_weight, F_weight.kp, g_weight, b_weight⟩⟩, ⟨⟨_, _, G__law_weight, F__law_weight.kp, g__law_weight, b__law_weight⟩⟩, ⟨⟨_, _, G__law_j_is_int, F__law_j_is_int.kp, g__law_j_is_int, b__law_j_is_int⟩⟩, ⟨⟨_, _, G_changes, F_changes.kp, g_changes, b_changes⟩⟩, ⟨⟨_, _, G__law_changes, F__law_changes.kp, g__law_changes, b__law_changes⟩⟩, R.heard⟩
end
end K46

set_option Elab.async false
set_option linter.all false
set_option maxRecDepth 100000
set_option maxHeartbeats 4000000
/-! The law's row, from what the top wrote. -/
namespace K46
open PySem PySem.Spec PyProof.Rows L2 LamX
/-- what is wanted of the head's heap -/
def Want (P : Program) (K : PySem.W.Frag) (mg : Str → Option Value) (fa : Addr) (h : Heap) : Prop :=
  ∃ (c tb C fI : Addr), h.get? tb = some tabO ∧ K.lookup tb = none ∧ PySem.W.CodeHd h c tb ∧ Top46 P K mg C fI ∧
    ∃ (oc : Value) (od : Option Addr) (kV doc pm ct : Value) (an : Option Addr) (osl : Array (Option Value)), K.lookup fa = some ⟨oc, od, .func (PySem.W.fnOf "law" "law" (defArgs sLaw) (defBody sLaw) (defScope sLaw) .none kV doc pm an (.ref c) ct), osl⟩ ∧ PySem.W.codeIn K (.ref c) "law" = true
theorem walk_want {l : PySem.W.OpenLaw} {n : Nat} {q : Program} {loose : List Str} {XP : (Str → Option Value) → Heap → Prop} {YP : World → Heap → Prop} {d : DefRec} {K : Params → PySem.W.Frag} (hn : l.most = some n) (hn2 : n ≤ sizeLine) (hdf : d.params.defaults = [])
    (hY : ∀ (w : World) (h : Heap), YP w h → (K w.params).In h)
    (F : ∀ (w : World) (mg : Str → Option Value) (fa : Addr) (h : Heap), YP w h → (K w.params).In h → h.Ns mainGlobals mg → mg d.name = some (.ref fa) → Want l.prog (K w.params) mg fa h) :
    PySem.W.WalkO q loose XP YP l.row.toRowW d [] (fun f vs => PySem.call f vs) := by
  refine Att.attach_callB hn hdf fun w s₀ s₁ mg mb fa o pm cd doc a vs ns G Y ho hd hcd hmg hobj hints hlen hbits hg => ?_
  have KX := hY w _ Y
  obtain ⟨c, tb, C, fI, hT, nT, hC, R, oc, od, kV, doc2, pm2, ct, an, osl, lk, hcl⟩ := F w mg fa _ Y KX G.T.g hmg
  refine enter_law KX G.T.g G.T.b G.T.builtins G.T.nolimit hg hT nT hC G.T.bmain hobj hints (Nat.le_trans hlen hn2) fun H base Ht hS inB nsB tab e0 => ?_
  refine run_ofS (N := nsLaw) (ps := ["script"]) (us := [.ref a]) (vs := [.ref a]) (k := 13) lk hcl scLaw ⟨rfl, by decide, by decide⟩ e0 (.of_eq rfl) (.cons rfl .nil) rfl fun hr' => ?_
  obtain ⟨t, h, q2⟩ := law_walk (parts_all (w := w) R base) (c := c) (tb := tb) (a := a) (E := C8.E0) tab rfl Ht hS hr'
  exact ⟨t, h.nox, q2⟩
end K46

set_option Elab.async false
set_option linter.all false
set_option maxRecDepth 100000
set_option maxHeartbeats 4000000
/-! Want, from the written part's raw facts. -/
namespace K46
open PySem PySem.Spec PyProof.Rows L2 LamX PySem.HandSPX
section
variable {P : Program} {K : PySem.W.Frag} {mg : Str → Option Value} {h : Heap}
theorem blt_mk (X : K.In h) (G : h.Ns mainGlobals mg) (f : ∀ x ∈ (["isinstance", "tuple", "str", "int", "bool", "len", "all", "list", "range", "repr"] : List Str), PySem.W.nsIn K mainGlobals x = some none) : Blt mg ∧ Blt2 mg :=
  have z := fun x hx => PySem.W.mg_none_of X G (f x hx)
  ⟨⟨z _ (by simp), z _ (by simp), z _ (by simp), z _ (by simp), z _ (by simp), z _ (by simp), z _ (by simp), z _ (by simp), z _ (by simp), z _ (by simp)⟩, ⟨z _ (by simp), z _ (by simp), z _ (by simp)⟩⟩
theorem con_mk {t1 t2 t3 : Tok} {aW : Addr} {oW : Obj} {its : Array Value} {n : Nat} (X : K.In h) (G : h.Ns mainGlobals mg) (a1 : PySem.W.nsIn K mainGlobals "SMALL" = some (some (.str tSmall t1))) (a2 : PySem.W.nsIn K mainGlobals "FIGURES" = some (some (.str tFigures t2)))
    (a3 : PySem.W.nsIn K mainGlobals "LONGEST" = some (some (.int 8 t3))) (a4 : PySem.W.nsIn K mainGlobals "WORDS" = some (some (.ref aW))) (lW : K.lookup aW = some oW) (cW : oW.cls = .type "tuple") (dW : oW.data = .seq its n) (sW : its.size ≤ sizeLine) (vW : Vals (tWords.map V.str) its.toList) : Con K mg :=
  ⟨⟨t1, PySem.W.mg_of X G a1⟩, ⟨t2, PySem.W.mg_of X G a2⟩, ⟨t3, PySem.W.mg_of X G a3⟩, ⟨aW, PySem.W.mg_of X G a4, fun H => .inr ⟨oW, its, n, lW, cW, dW, sW, vW⟩⟩⟩
theorem caught {S : Addr} (h1 : PySem.W.subIn K (.ref S) (.type "BaseException") = some true) (h2 : PySem.W.isClsIn K S = true) (h3 : PySem.W.typeIn K (.ref S) = some (.type "type")) (h4 : PySem.W.subIn K (.ref S) (.ref S) = some true) : PySem.W.exmOne K (.ref S) (.ref S) = some true := by
  have q1 : (PySem.W.subIn K (.ref S) (.type "BaseException") == some true) = true := by rw [h1] <;> rfl
  have q2 : ((PySem.W.clsIn K S).isSome && PySem.W.typeIn K (.ref S) == some (.type "type")) = true := by
    rw [show (PySem.W.clsIn K S).isSome = true from h2, h3] <;> rfl
  show (if (PySem.W.subIn K (.ref S) (.type "BaseException") == some true) = true then (if ((PySem.W.clsIn K S).isSome && PySem.W.typeIn K (.ref S) == some (.type "type")) = true then PySem.W.subIn K (.ref S) (.ref S) else none) else none) = _
  rw [if_pos q1, if_pos q2, h4]
theorem sup_mk {C fI : Addr} {nm qn qual : Str} {N : Addr} {bs bm : List Value} {sn : List Str} {sub : List Value} {ab : Bool} {col : Option Bool} {dd : Option Addr} {k0 k1 k2 k3 k5 : Option Value}
    {oc doc pm ct ccl cl : Value} {od an cdd cld : Option Addr} {cda cc : Addr} {osl ccs csl : Array (Option Value)} {vs : Array Value} {file : Str} {tf : Tok} (X : K.In h) (G : h.Ns mainGlobals mg)
    (aC : PySem.W.nsIn K mainGlobals "BadProgram" = some (some (.ref C))) (xL : K.lookup C = some (excClassObj nm qn C N bs bm true sn sub ab col dd k0 k1 k2 k3 k5 "ValueError.__new__")) (re : refsVE bm = true) (al : PySem.W.alongIn K "__init__" bm = some (some (.builtin "ValueError.__init__")))
    (sa : PySem.W.findIn K (.ref C) "__setattr__" = some (some (.builtin "object.__setattr__"))) (ga : PySem.W.findIn K (.ref C) "__getattribute__" = some (some (.builtin "BaseException.__getattribute__"))) (gg : PySem.W.findIn K (.ref C) "__getattr__" = some none) (nb : PySem.W.findIn K (.ref C) "value" = some none)
    (a1 : PySem.W.findIn K (.ref C) "__init__" = some (some (.ref fI))) (t1 : PySem.W.typeIn K (.ref fI) = some (.type "function")) (kC : PySem.W.keepIn K (.ref C) = true) (eC : PySem.W.subIn K (.ref C) (.type "BaseException") = some true) (vC : PySem.W.subIn K (.ref C) (.type "ValueError") = some true)
    (se : PySem.W.mroIn K C (.ref C) = some true) (tC : PySem.W.typeIn K (.ref C) = some (.type "type")) (hC : PySem.W.hasDictIn K C = true) (iC : PySem.W.isClsIn K C = true) (sC : PySem.W.subIn K (.ref C) (.ref C) = some true) (op : PySem.W.nsIn K cStatics "thirdparty.any" = some none) (nS : PySem.W.nsIn K mainGlobals "super" = some none)
    (tp : (P.main.scope.names.lookup ("super" : Str)).isSome = false)
    (l1 : K.lookup fI = some ⟨oc, od, .func (PySem.W.ksFn "__init__" qual PySem.SupX.iA PySem.SupX.iB PySem.SupX.iS .none .none doc pm an (.ref cda) ct cc), osl⟩) (c1 : PySem.W.codeIn K (.ref cda) qual = true)
    (l2 : K.lookup cda = some ⟨ccl, cdd, .fields vs, ccs⟩) (v2 : vs[2]? = some (.str file tf)) (fe : ((P.main.file : Str) == file) = true) (l3 : K.lookup cc = some ⟨cl, cld, .cell (some (.ref C)), csl⟩) : PySem.SupX.SupTxt P K mg "BadProgram" C fI :=
  { gC := PySem.W.mg_of X G aC, cls := ⟨nm, qn, N, bs, bm, sn, sub, ab, col, dd, k0, k1, k2, k3, k5, xL, re, al⟩, sa := sa, ga := ga, gg := gg, noN := nb, iC := a1, tC := t1, kC := kC, exC := eC, veC := vC, seC := se, tyC := tC, hdC := hC, te := caught eC iC tC sC, opq := op, sup := PySem.W.mg_none_of X G nS, top := tp,
    fn := ⟨oc, od, doc, pm, an, cda, cc, ct, osl, qual, ccl, cl, cdd, cld, ccs, csl, vs, file, tf, l1, c1, l2, v2, fe, l3⟩ }
theorem heard_mk {f : Addr} {oc kV doc pm cdv ct : Value} {od an : Option Addr} {osl : Array (Option Value)} (X : K.In h) (G : h.Ns mainGlobals mg) (a : PySem.W.nsIn K mainGlobals "_law_heard" = some (some (.ref f)))
    (l : K.lookup f = some ⟨oc, od, .func (PySem.W.fnOf "_law_heard" "_law_heard" (defArgs sHeard) (defBody sHeard) (defScope sHeard) .none kV doc pm an cdv ct), osl⟩) (c : PySem.W.codeIn K cdv "_law_heard" = true) (k : PySem.W.keepIn K (.ref f) = true) :
    ∃ (f : Addr) (oc : Value) (od : Option Addr) (dV kV doc pm cdv ct : Value) (an : Option Addr) (osl : Array (Option Value)), mg "_law_heard" = some (.ref f) ∧ PySem.W.keepIn K (.ref f) = true ∧
    K.lookup f = some ⟨oc, od, .func (PySem.W.fnOf "_law_heard" "_law_heard" (defArgs sHeard) (defBody sHeard) (defScope sHeard) dV kV doc pm an cdv ct), osl⟩ ∧ PySem.W.codeIn K cdv "_law_heard" = true ∧
    Binds K (PySem.W.fnOf "_law_heard" "_law_heard" (defArgs sHeard) (defBody sHeard) (defScope sHeard) dV kV doc pm an cdv ct) ["call"] [] :=
  ⟨f, oc, od, .none, kV, doc, pm, cdv, ct, an, osl, PySem.W.mg_of X G a, k, l, c, .all fun us hl => match us, hl with | [_], _ => rfl⟩
theorem want_mk {C fI fa f c tb : Addr} {oc kV doc pm ct : Value} {od an : Option Addr} {osl : Array (Option Value)} (X : K.In h) (G : h.Ns mainGlobals mg) (hmg : mg "law" = some (.ref fa)) (R : Top46 P K mg C fI) (a : PySem.W.nsIn K mainGlobals "law" = some (some (.ref f)))
    (l : K.lookup f = some ⟨oc, od, .func (PySem.W.fnOf "law" "law" (defArgs sLaw) (defBody sLaw) (defScope sLaw) .none kV doc pm an (.ref c) ct), osl⟩) (cd : PySem.W.codeIn K (.ref c) "law" = true) (ht : h.get? tb = some tabO) (nt : K.lookup tb = none) (hc : PySem.W.codeHdIn K c tb = true) : Want P K mg fa h := by
  have e := hmg.symm.trans (PySem.W.mg_of X G a)
  cases e
  exact ⟨c, tb, C, fI, ht, nt, PySem.W.codeHd_of_K X hc, R, oc, od, kV, doc, pm, ct, an, osl, l, cd⟩
end
end K46

set_option Elab.async false
set_option linter.all false
set_option maxRecDepth 100000
open PySem PySem.W PyProof.Rows
set_option maxHeartbeats 0 in
theorem PySem.Challenge.cw_loopproof_k46_whole_changes_holds : PySem.Challenge.rw_loopproof_k46_whole_changes.Holds := by
  w_on; o_law; k_head; (case hw => w_witness2)
  k_fill
  refine K46.walk_want (l := PySem.Challenge.rw_loopproof_k46_whole_changes) (n := 63) rfl (by decide) rfl (fun w h Y => PySem.W.km_in_of Y) ?F
  case F =>
    intro w mg fa h Y KX G hmg
    refine' K46.want_mk (tb := 254) KX G hmg ?R ?aL ?lL ?cL ?tL ?nL ?hL
    case aL => k_is
    case lL => k_is
    case cL => k_is
    case tL => exact PySem.W.km_tabs_of Y 254 (by k_mem)
    case nL => kernel_rfl
    case hL => kernel_rfl
    case R =>
      have BB := K46.blt_mk KX G (fun x hx => by
        simp only [List.mem_cons, List.not_mem_nil, or_false] at hx
        rcases hx with rfl | rfl | rfl | rfl | rfl | rfl | rfl | rfl | rfl | rfl
        all_goals k_is)
      refine' K46.Top46.mk ?T BB.1 BB.2 ?Cn ?zz0 ?zz1 ?zz2 ?zz3 ?zz4 ?zz5 ?zz6 ?zz7 ?zz8 ?zz9 ?zz10 ?zz11 ?zz12 ?zz13 ?zz14 ?zz15 ?zz16 ?zz17 ?zz18 ?zz19 ?zz20 ?zz21 ?zz22 ?zz23 ?zz24 ?zz25 ?zz26 ?zz27 ?zz28 ?zz29 ?heard
      case T =>
        refine' K46.sup_mk KX G ?aC ?xL ?re ?al ?sa ?ga ?gg ?nb ?a1 ?t1 ?kC ?eC ?vC ?se ?tC ?hC ?iC ?sC ?op ?nS ?tp ?l1 ?c1 ?l2 ?v2 ?fe ?l3
        (case aC => k_is); (case xL => k_is); (case re => decide +kernel); (case al => first | k_is | kernel_rfl); (case sa => k_is); (case ga => k_is); (case gg => k_is); (case nb => k_is)
        (case a1 => k_is); (case t1 => k_is); (case kC => k_is); (case eC => k_is); (case vC => k_is); (case se => first | k_is | kernel_rfl); (case tC => k_is); (case hC => k_is); (case iC => k_is); (case sC => first | rfl | k_is)
        (case op => k_is); (case nS => k_is); (case tp => decide +kernel)
        (case l1 => k_is); (case c1 => k_is); (case l2 => k_is); (case v2 => rfl); (case fe => first | rfl | kernel_rfl); (case l3 => k_is)
      case Cn =>
        refine' K46.con_mk KX G ?a1 ?a2 ?a3 ?a4 ?lW ?cW ?dW ?sW ?vW
        (case a1 => k_is); (case a2 => k_is); (case a3 => k_is); (case a4 => k_is); (case lW => k_is); (case cW => rfl); (case dW => rfl); (case sW => decide)
        case vW => exact .cons ⟨_, rfl⟩ (.cons ⟨_, rfl⟩ (.cons ⟨_, rfl⟩ (.cons ⟨_, rfl⟩ (.cons ⟨_, rfl⟩ (.cons ⟨_, rfl⟩ (.cons ⟨_, rfl⟩ (.cons ⟨_, rfl⟩ (.cons ⟨_, rfl⟩ (.cons ⟨_, rfl⟩ (.cons ⟨_, rfl⟩ (.cons ⟨_, rfl⟩ (.cons ⟨_, rfl⟩ (.cons ⟨_, rfl⟩ (.cons ⟨_, rfl⟩ (.cons ⟨_, rfl⟩ (.cons ⟨_, rfl⟩ (.cons ⟨_, rfl⟩ (.cons ⟨_, rfl⟩ (.cons ⟨_, rfl⟩ (.cons ⟨_, rfl⟩ (.cons ⟨_, rfl⟩ (.cons ⟨_, rfl⟩ (.cons ⟨_, rfl⟩ (.cons ⟨_, rfl⟩ .nil))))))))))))))))))))))))
      case heard =>
        refine' K46.heard_mk KX G ?a ?l ?c ?k
        (case a => k_is); (case l => k_is); (case c => k_is); (case k => k_is)
      case zz0 =>
        refine' K46.raw_mk KX G K46.bind_is_name ?a ?l ?c ?k
        (case a => k_is); (case l => k_is); (case c => k_is); (case k => k_is)
      case zz1 =>
        refine' K46.raw_mk KX G K46.bind_is_head ?a ?l ?c ?k
        (case a => k_is); (case l => k_is); (case c => k_is); (case k => k_is)
      case zz2 =>
        refine' K46.raw_mk KX G K46.bind_test_parts ?a ?l ?c ?k
        (case a => k_is); (case l => k_is); (case c => k_is); (case k => k_is)
      case zz3 =>
        refine' K46.raw_mk KX G K46.bind_is_test ?a ?l ?c ?k
        (case a => k_is); (case l => k_is); (case c => k_is); (case k => k_is)
      case zz4 =>
        refine' K46.raw_mk KX G K46.bind_program_parts ?a ?l ?c ?k
        (case a => k_is); (case l => k_is); (case c => k_is); (case k => k_is)
      case zz5 =>
        refine' K46.raw_mk KX G K46.bind_is_program ?a ?l ?c ?k
        (case a => k_is); (case l => k_is); (case c => k_is); (case k => k_is)
      case zz6 =>
        refine' K46.raw_mk KX G K46.bind_all_parts ?a ?l ?c ?k
        (case a => k_is); (case l => k_is); (case c => k_is); (case k => k_is)
      case zz7 =>
        refine' K46.raw_mk KX G K46.bind_weight_of ?a ?l ?c ?k
        (case a => k_is); (case l => k_is); (case c => k_is); (case k => k_is)
      case zz8 =>
        refine' K46.raw_mk KX G K46.bind_need_program ?a ?l ?c ?k
        (case a => k_is); (case l => k_is); (case c => k_is); (case k => k_is)
      case zz9 =>
        refine' K46.raw_mk KX G K46.bind_weight ?a ?l ?c ?k
        (case a => k_is); (case l => k_is); (case c => k_is); (case k => k_is)
      case zz10 =>
        refine' K46.raw_mk KX G K46.bind_test_place ?a ?l ?c ?k
        (case a => k_is); (case l => k_is); (case c => k_is); (case k => k_is)
      case zz11 =>
        refine' K46.raw_mk KX G K46.bind_put_in_place ?a ?l ?c ?k
        (case a => k_is); (case l => k_is); (case c => k_is); (case k => k_is)
      case zz12 =>
        refine' K46.raw_mk KX G K46.bind_changed_here ?a ?l ?c ?k
        (case a => k_is); (case l => k_is); (case c => k_is); (case k => k_is)
      case zz13 =>
        refine' K46.raw_mk KX G K46.bind_part_places ?a ?l ?c ?k
        (case a => k_is); (case l => k_is); (case c => k_is); (case k => k_is)
      case zz14 =>
        refine' K46.raw_mk KX G K46.bind_all_changes ?a ?l ?c ?k
        (case a => k_is); (case l => k_is); (case c => k_is); (case k => k_is)
      case zz15 =>
        refine' K46.raw_mk KX G K46.bind_lighter_of ?a ?l ?c ?k
        (case a => k_is); (case l => k_is); (case c => k_is); (case k => k_is)
      case zz16 =>
        refine' K46.raw_mk KX G K46.bind_changes ?a ?l ?c ?k
        (case a => k_is); (case l => k_is); (case c => k_is); (case k => k_is)
      case zz17 =>
        refine' K46.raw_mk KX G K46.bind__law_pen ?a ?l ?c ?k
        (case a => k_is); (case l => k_is); (case c => k_is); (case k => k_is)
      case zz18 =>
        refine' K46.raw_mk KX G K46.bind__law_draw ?a ?l ?c ?k
        (case a => k_is); (case l => k_is); (case c => k_is); (case k => k_is)
      case zz19 =>
        refine' K46.raw_mk KX G K46.bind__law_pick ?a ?l ?c ?k
        (case a => k_is); (case l => k_is); (case c => k_is); (case k => k_is)
      case zz20 =>
        refine' K46.raw_mk KX G K46.bind__law_test ?a ?l ?c ?k
        (case a => k_is); (case l => k_is); (case c => k_is); (case k => k_is)
      case zz21 =>
        refine' K46.raw_mk KX G K46.bind__law_names ?a ?l ?c ?k
        (case a => k_is); (case l => k_is); (case c => k_is); (case k => k_is)
      case zz22 =>
        refine' K46.raw_mk KX G K46.bind__law_j_is_int ?a ?l ?c ?k
        (case a => k_is); (case l => k_is); (case c => k_is); (case k => k_is)
      case zz23 =>
        refine' K46.raw_mk KX G K46.bind__law_j_program ?a ?l ?c ?k
        (case a => k_is); (case l => k_is); (case c => k_is); (case k => k_is)
      case zz24 =>
        refine' K46.raw_mk KX G K46.bind__law_parts ?a ?l ?c ?k
        (case a => k_is); (case l => k_is); (case c => k_is); (case k => k_is)
      case zz25 =>
        refine' K46.raw_mk KX G K46.bind__law_weight ?a ?l ?c ?k
        (case a => k_is); (case l => k_is); (case c => k_is); (case k => k_is)
      case zz26 =>
        refine' K46.raw_mk KX G K46.bind__law_at ?a ?l ?c ?k
        (case a => k_is); (case l => k_is); (case c => k_is); (case k => k_is)
      case zz27 =>
        refine' K46.raw_mk KX G K46.bind__law_put ?a ?l ?c ?k
        (case a => k_is); (case l => k_is); (case c => k_is); (case k => k_is)
      case zz28 =>
        refine' K46.raw_mk KX G K46.bind__law_places ?a ?l ?c ?k
        (case a => k_is); (case l => k_is); (case c => k_is); (case k => k_is)
      case zz29 =>
        refine' K46.raw_mk KX G K46.bind__law_changes ?a ?l ?c ?k
        (case a => k_is); (case l => k_is); (case c => k_is); (case k => k_is)

