import PyProof.Rows.All
import Wide.All
import OpenK.AllK
import Wide.FinOn
import KE.KExcSuper
import HandS.ForMost
import HandS.Exc
import HandS.WordsExc
import HandS.Codes
import HandS.IsInst
import HandS.Sort
import HandS.Walk
import PyProof.NeKinds
import KE.GoesEnum
import HandS.Star
import KE.KTryMore
import HandS.ExcOwn
import HandS.TryMany
import PyProof.FString5
import HandS.Style
import HandS.SortKw
import KE.SortKeyHeap
import HandS.Text
import PyProof.ReprRoads
import PyProof.Rows.NestFoldShow
import PyProof.Rows.RegStrFacts
import HandS.Ends
import HandS.ExcIs
import KE.RegKSuper
import PySem.Challenge.RW_lumpplans_k10_whole_wrong_places
namespace K10
abbrev Cs := List Nat
def blanks : Cs := [32, 10]
def signs : Cs := [40, 41, 123, 125, 44, 59]
def figs : Cs := [48, 49, 50, 51, 52, 53, 54, 55, 56, 57]
def lets : Cs := [97, 98, 99, 100, 101, 102, 103, 104, 105, 106, 107, 108, 109, 110, 111, 112, 113, 114, 115, 116, 117, 118, 119, 120, 121, 122]
def runEnd (cs : Cs) (p : Nat) (sg : Cs) : Nat := p + ((cs.drop p).takeWhile fun c => decide (c ∈ sg)).length
theorem drop_at {cs : Cs} {p c : Nat} (h : cs[p]? = some c) : cs.drop p = c :: cs.drop (p + 1) := by
  obtain ⟨hp, e⟩ := List.getElem?_eq_some_iff.mp h
  rw [List.drop_eq_getElem_cons hp, e]
theorem runEnd_in {cs sg : Cs} {p c : Nat} (h : cs[p]? = some c) (hc : c ∈ sg) : runEnd cs (p + 1) sg = runEnd cs p sg := by
  unfold runEnd
  rw [drop_at h, List.takeWhile_cons, if_pos (decide_eq_true hc), List.length_cons]
  omega
theorem runEnd_out {cs sg : Cs} {p c : Nat} (h : cs[p]? = some c) (hc : c ∉ sg) : runEnd cs p sg = p := by
  unfold runEnd
  rw [drop_at h, List.takeWhile_cons, if_neg (by simpa using hc), List.length_nil, Nat.add_zero]
theorem runEnd_end {cs sg : Cs} {p : Nat} (h : cs.length ≤ p) : runEnd cs p sg = p := by
  unfold runEnd
  rw [List.drop_eq_nil_of_le h] <;> rfl
theorem le_runEnd (cs sg : Cs) (p : Nat) : p ≤ runEnd cs p sg := Nat.le_add_right _ _
theorem tw_length {α : Type} (f : α → Bool) : ∀ l : List α, (l.takeWhile f).length ≤ l.length
  | [] => Nat.le_refl _
  | a :: l => by
    rw [List.takeWhile_cons]
    split
    · exact Nat.succ_le_succ (tw_length f l)
    · exact Nat.zero_le _
theorem runEnd_le {cs sg : Cs} {p : Nat} (h : p ≤ cs.length) : runEnd cs p sg ≤ cs.length := by
  unfold runEnd
  have e := tw_length (fun c => decide (c ∈ sg)) (cs.drop p)
  rw [List.length_drop] at e
  omega
theorem runEnd_pos {cs sg : Cs} {p c : Nat} (h : cs[p]? = some c) (hc : c ∈ sg) : p + 1 ≤ runEnd cs p sg := by
  rw [← runEnd_in h hc]
  exact le_runEnd _ _ _
/-- from p to q, without q -/
def cut (cs : Cs) (p q : Nat) : Cs := (cs.drop p).take (q - p)
theorem cut_length {cs : Cs} {p q : Nat} (h1 : p ≤ q) (h2 : q ≤ cs.length) : (cut cs p q).length = q - p := by
  unfold cut
  rw [List.length_take, List.length_drop]
  omega
theorem cut_one {cs : Cs} {p c : Nat} (h : cs[p]? = some c) : cut cs p (p + 1) = [c] := by
  unfold cut
  rw [drop_at h, show p + 1 - p = 1 by omega]
  rfl
theorem cut_self (cs : Cs) (p : Nat) : cut cs p p = [] := by
  unfold cut
  rw [Nat.sub_self] <;> rfl
def wordHead : Cs → Bool
  | [] => false
  | c :: _ => decide (c ∈ lets)
def isWord (l : Cs) : Bool := decide (1 ≤ l.length) && decide (l.length ≤ 12) && wordHead l && l.all fun c => decide (c ∈ lets ++ figs)
theorem isWord_nil : isWord [] = false := by decide
theorem isWord_long {l : Cs} (h : ¬ (1 ≤ l.length ∧ l.length ≤ 12)) : isWord l = false := by
  unfold isWord
  by_cases a : 1 ≤ l.length
  · rw [decide_eq_false (fun b => h ⟨a, b⟩), Bool.and_false, Bool.false_and, Bool.false_and]
  · rw [decide_eq_false a, Bool.false_and, Bool.false_and, Bool.false_and]
theorem isWord_head {l : Cs} (h : wordHead l = false) : isWord l = false := by
  unfold isWord
  rw [h, Bool.and_false, Bool.false_and]
theorem isWord_rest {l : Cs} (h1 : 1 ≤ l.length) (h2 : l.length ≤ 12) (h : wordHead l = true) : isWord l = l.all fun c => decide (c ∈ lets ++ figs) := by
  unfold isWord
  rw [decide_eq_true h1, decide_eq_true h2, h, Bool.true_and, Bool.true_and, Bool.true_and]
theorem mem_lets (c : Nat) : c ∈ lets ↔ 97 ≤ c ∧ c ≤ 122 := by
  unfold lets
  simp only [List.mem_cons, List.mem_nil_iff, or_false]
  omega
theorem mem_figs (c : Nat) : c ∈ figs ↔ 48 ≤ c ∧ c ≤ 57 := by
  unfold figs
  simp only [List.mem_cons, List.mem_nil_iff, or_false]
  omega
theorem mem_signs (c : Nat) : c ∈ signs ↔ c = 40 ∨ c = 41 ∨ c = 123 ∨ c = 125 ∨ c = 44 ∨ c = 59 := by
  unfold signs
  simp only [List.mem_cons, List.mem_nil_iff, or_false]
inductive Kd where
  | fin | sgn | num | wrd | bad
  deriving DecidableEq
structure Lx where
  k : Kd
  s : Cs
  p : Nat
def numAt (cs : Cs) (p c : Nat) : Cs := cut cs p (if c = 48 then p + 1 else runEnd cs p figs)
def runAt (cs : Cs) (p : Nat) : Cs := cut cs p (runEnd cs p (lets ++ figs))
def lexAt (cs : Cs) (p0 : Nat) : Lx :=
  match cs[runEnd cs p0 blanks]? with
  | none => ⟨.fin, [], runEnd cs p0 blanks⟩
  | some c =>
    if c ∈ signs then ⟨.sgn, [c], runEnd cs p0 blanks⟩
    else if c ∈ figs then ⟨.num, numAt cs (runEnd cs p0 blanks) c, runEnd cs p0 blanks⟩
    else if isWord (runAt cs (runEnd cs p0 blanks)) = true then ⟨.wrd, runAt cs (runEnd cs p0 blanks), runEnd cs p0 blanks⟩
    else ⟨.bad, [], runEnd cs p0 blanks⟩
def nextL (cs : Cs) (L : Lx) : Lx := lexAt cs (L.p + L.s.length)
section
variable {cs : Cs} {p0 c : Nat}
theorem lexAt_fin (h : cs[runEnd cs p0 blanks]? = none) : lexAt cs p0 = ⟨.fin, [], runEnd cs p0 blanks⟩ := by
  unfold lexAt; rw [h]
theorem lexAt_sgn (h : cs[runEnd cs p0 blanks]? = some c) (h1 : c ∈ signs) : lexAt cs p0 = ⟨.sgn, [c], runEnd cs p0 blanks⟩ := by
  unfold lexAt; rw [h]; simp only; rw [if_pos h1]
theorem lexAt_num (h : cs[runEnd cs p0 blanks]? = some c) (h1 : c ∉ signs) (h2 : c ∈ figs) : lexAt cs p0 = ⟨.num, numAt cs (runEnd cs p0 blanks) c, runEnd cs p0 blanks⟩ := by
  unfold lexAt; rw [h]; simp only; rw [if_neg h1, if_pos h2]
theorem lexAt_wrd (h : cs[runEnd cs p0 blanks]? = some c) (h1 : c ∉ signs) (h2 : c ∉ figs) (h3 : isWord (runAt cs (runEnd cs p0 blanks)) = true) : lexAt cs p0 = ⟨.wrd, runAt cs (runEnd cs p0 blanks), runEnd cs p0 blanks⟩ := by
  unfold lexAt; rw [h]; simp only; rw [if_neg h1, if_neg h2, if_pos h3]
theorem lexAt_bad (h : cs[runEnd cs p0 blanks]? = some c) (h1 : c ∉ signs) (h2 : c ∉ figs) (h3 : isWord (runAt cs (runEnd cs p0 blanks)) = false) : lexAt cs p0 = ⟨.bad, [], runEnd cs p0 blanks⟩ := by
  unfold lexAt; rw [h]; simp only; rw [if_neg h1, if_neg h2, if_neg (by rw [h3]; exact Bool.false_ne_true)]
end
/-- what a lexeme is -/
structure LxOk (cs : Cs) (L : Lx) : Prop where
  le : L.p + L.s.length ≤ cs.length
  fin : L.k = .fin → L.s = []
  bad : L.k = .bad → L.s = []
  sgn : L.k = .sgn → ∃ c, L.s = [c] ∧ c ∈ signs
  num : L.k = .num → ∃ c r, L.s = c :: r ∧ c ∈ figs
  wrd : L.k = .wrd → isWord L.s = true
theorem numAt_le {cs : Cs} {p c : Nat} (h : cs[p]? = some c) (hc : c ∈ figs) : ∃ q, p + 1 ≤ q ∧ q ≤ cs.length ∧ numAt cs p c = cut cs p q := by
  have hp := (List.getElem?_eq_some_iff.mp h).1
  unfold numAt
  split
  · exact ⟨p + 1, Nat.le_refl _, hp, rfl⟩
  · exact ⟨_, runEnd_pos h hc, runEnd_le (Nat.le_of_lt hp), rfl⟩
theorem cut_head {cs : Cs} {p q c : Nat} (h : cs[p]? = some c) (hq : p + 1 ≤ q) : ∃ r, cut cs p q = c :: r := by
  unfold cut
  rw [drop_at h]
  obtain ⟨k, e⟩ : ∃ k, q - p = k + 1 := ⟨q - p - 1, by omega⟩
  rw [e, List.take_succ_cons]
  exact ⟨_, rfl⟩
theorem lexAt_ok {cs : Cs} {p0 : Nat} (h0 : p0 ≤ cs.length) : LxOk cs (lexAt cs p0) := by
  have hle := runEnd_le (sg := blanks) h0
  cases h : cs[runEnd cs p0 blanks]? with
  | none =>
    rw [lexAt_fin h]
    exact ⟨hle, fun _ => rfl, fun _ => rfl, fun z => (by cases z), fun z => (by cases z), fun z => (by cases z)⟩
  | some c =>
    have hp := (List.getElem?_eq_some_iff.mp h).1
    by_cases h1 : c ∈ signs
    · rw [lexAt_sgn h h1]
      exact ⟨hp, fun z => (by cases z), fun z => (by cases z), fun _ => ⟨c, rfl, h1⟩, fun z => (by cases z), fun z => (by cases z)⟩
    · by_cases h2 : c ∈ figs
      · rw [lexAt_num h h1 h2]
        obtain ⟨q, q1, q2, q3⟩ := numAt_le h h2
        refine ⟨?_, fun z => (by cases z), fun z => (by cases z), fun z => (by cases z), fun _ => ?_, fun z => (by cases z)⟩
        · show runEnd cs p0 blanks + (numAt cs (runEnd cs p0 blanks) c).length ≤ cs.length
          rw [q3, cut_length (Nat.le_of_succ_le q1) q2]
          omega
        · obtain ⟨r, e⟩ := cut_head h q1
          exact ⟨c, r, q3.trans e, h2⟩
      · cases h3 : isWord (runAt cs (runEnd cs p0 blanks)) with
        | true =>
          rw [lexAt_wrd h h1 h2 h3]
          refine ⟨?_, fun z => (by cases z), fun z => (by cases z), fun z => (by cases z), fun z => (by cases z), fun _ => h3⟩
          show runEnd cs p0 blanks + (runAt cs (runEnd cs p0 blanks)).length ≤ cs.length
          have a1 := le_runEnd cs (lets ++ figs) (runEnd cs p0 blanks)
          have a2 := runEnd_le (sg := lets ++ figs) hle
          unfold runAt
          rw [cut_length a1 a2]
          omega
        | false =>
          rw [lexAt_bad h h1 h2 h3]
          exact ⟨hle, fun z => (by cases z), fun _ => rfl, fun z => (by cases z), fun z => (by cases z), fun z => (by cases z)⟩
theorem lexAt_ge (cs : Cs) (p0 : Nat) : p0 ≤ (lexAt cs p0).p := by
  have hle := le_runEnd cs blanks p0
  unfold lexAt
  split
  · exact hle
  · split
    · exact hle
    · split
      · exact hle
      · split
        · exact hle
        · exact hle
theorem next_ok {cs : Cs} {L : Lx} (h : LxOk cs L) : LxOk cs (nextL cs L) := lexAt_ok h.le
theorem next_ge {cs : Cs} (L : Lx) : L.p + L.s.length ≤ (nextL cs L).p := lexAt_ge _ _
inductive Sh where
  | leaf
  | node (l r : Sh)
abbrev Res (α : Type) := Option (Except Nat α)
/-- at most n brackets within one another -/
def takeShape (cs : Cs) : Nat → Lx → Res (Sh × Lx)
  | 0, _ => none
  | n + 1, L =>
    if L.s = [40] then
      match takeShape cs n (nextL cs L) with
      | none => none
      | some (.error p) => some (.error p)
      | some (.ok (l, L1)) =>
        match takeShape cs n L1 with
        | none => none
        | some (.error p) => some (.error p)
        | some (.ok (r, L2)) => if L2.s = [41] then some (.ok (.node l r, nextL cs L2)) else some (.error L2.p)
    else if L.s = [111] then some (.ok (.leaf, nextL cs L)) else some (.error L.p)
/-- what is left of a table behind its { and some entries -/
def takeEntries (cs : Cs) (D : Nat) : Nat → Lx → List Sh → Res (List Sh × Lx)
  | 0, _, _ => none
  | n + 1, L, acc =>
    if acc ≠ [] ∧ L.s = [125] then some (.ok (acc, nextL cs L))
    else
      match takeShape cs D L with
      | none => none
      | some (.error p) => some (.error p)
      | some (.ok (t, L1)) => if L1.s = [59] then takeEntries cs D n (nextL cs L1) (acc ++ [t]) else some (.error L1.p)
def wTable : Cs := [116, 97, 98, 108, 101]
def wPlan : Cs := [112, 108, 97, 110]
def wRound : Cs := [114, 111, 117, 110, 100]
def wLeft : Cs := [108, 101, 102, 116]
def wRight : Cs := [114, 105, 103, 104, 116]
def wEnd : Cs := [69, 78, 68]
/-- go on behind a told lexeme -/
def tk {α : Type} (cs : Cs) (w : Cs) (L : Lx) (f : Lx → Res α) : Res α := if L.s = w then f (nextL cs L) else some (.error L.p)
def takeTable (cs : Cs) (D n : Nat) (L : Lx) : Res (List Sh × Lx) := tk cs wTable L fun L1 => tk cs [123] L1 fun L2 => takeEntries cs D n L2 []
/-- the tables of a round behind its { and some tables -/
def takeRound (cs : Cs) (D n : Nat) : Nat → Lx → List (List Sh) → Res (List (List Sh) × Lx)
  | 0, _, _ => none
  | m + 1, L, acc =>
    if acc ≠ [] ∧ L.s = [125] then some (.ok (acc, nextL cs L))
    else
      match takeTable cs D n L with
      | none => none
      | some (.error p) => some (.error p)
      | some (.ok (t, L1)) => takeRound cs D n m L1 (acc ++ [t])
/-- the tables ahead of the end -/
def takeTables (cs : Cs) (D n : Nat) : Nat → Lx → List (List Sh) → Res (List (List Sh) × Lx)
  | 0, _, _ => none
  | m + 1, L, acc =>
    if L.s = wTable then
      match takeTable cs D n L with
      | none => none
      | some (.error p) => some (.error p)
      | some (.ok (t, L1)) => takeTables cs D n m L1 (acc ++ [t])
    else some (.ok (acc, L))
inductive En where
  | left | right
  | round (ts : List (List Sh))
def takeEnd (cs : Cs) (D n : Nat) (L : Lx) : Res (En × Lx) :=
  if L.s = wRound then
    tk cs [123] (nextL cs L) fun L1 =>
      match takeRound cs D n n L1 [] with
      | none => none
      | some (.error p) => some (.error p)
      | some (.ok (ts, L2)) => some (.ok (.round ts, L2))
  else if L.s = wLeft then tk cs [59] (nextL cs L) fun L1 => some (.ok (.left, L1))
  else tk cs wRight L fun L1 => tk cs [59] L1 fun L2 => some (.ok (.right, L2))
def fin {α : Type} (L : Lx) (a : α) : Res α := if L.k = .fin then some (.ok a) else some (.error L.p)
def readShape (cs : Cs) (D : Nat) : Res Sh :=
  match takeShape cs D (lexAt cs 0) with
  | none => none
  | some (.error p) => some (.error p)
  | some (.ok (t, L)) => fin L t
def readTable (cs : Cs) (D n : Nat) : Res (List Sh) :=
  match takeTable cs D n (lexAt cs 0) with
  | none => none
  | some (.error p) => some (.error p)
  | some (.ok (t, L)) => fin L t
def readPlan (cs : Cs) (D n : Nat) : Res (List (List Sh) × En) :=
  tk cs wPlan (lexAt cs 0) fun L0 => tk cs [123] L0 fun L1 =>
    match takeTables cs D n n L1 [] with
    | none => none
    | some (.error p) => some (.error p)
    | some (.ok (ts, L2)) =>
      match takeEnd cs D n L2 with
      | none => none
      | some (.error p) => some (.error p)
      | some (.ok (e, L3)) => tk cs [125] L3 fun L4 => fin L4 (ts, e)
/-- the first wrong place, if there is one -/
def errOf {α : Type} : Res α → Option (Option Nat)
  | none => none
  | some (.error p) => some (some p)
  | some (.ok _) => some none
end K10
set_option Elab.async false
set_option linter.all false
set_option maxRecDepth 100000
set_option maxHeartbeats 4000000
namespace K10E
open PySem PySem.W PySem.Calls PyProof.Rows PySem.HandSPX
/-- what the written part says of the class at C, its __init__ at fI (text st), the code object at cda, the cell __class__ at cc -/
structure XT (P : Program) (K : Frag) (mg : Str → Option Value) (st : Stmt) (qual par fld : Str) (C fI cda cc : Addr) : Prop where
  cls : ∃ nm q N bs bm sn sub ab col dd k0 k1 k2 k3 k5, K.lookup C = some (excClassObj nm q C N bs bm true sn sub ab col dd k0 k1 k2 k3 k5 "ValueError.__new__") ∧ refsVE bm = true
  sa : findIn K (.ref C) "__setattr__" = some (some (.builtin "object.__setattr__"))
  noN : findIn K (.ref C) fld = some none
  iC : findIn K (.ref C) "__init__" = some (some (.ref fI))
  tC : typeIn K (.ref fI) = some (.type "function")
  kC : keepIn K (.ref C) = true
  exC : subIn K (.ref C) (.type "BaseException") = some true
  veC : subIn K (.ref C) (.type "ValueError") = some true
  tyC : typeIn K (.ref C) = some (.type "type")
  suC : ks_superIn K C C "__init__" = some (some (.builtin "ValueError.__init__"))
  slf : mroIn K C (.ref C) = some true
  opq : nsIn K cStatics "thirdparty.any" = some none
  noS : mg "super" = none
  cell : ∃ cl cld csl, K.lookup cc = some ⟨cl, cld, .cell (some (.ref C)), csl⟩
  code : ∃ ccl cdd vs ccs file tf, K.lookup cda = some ⟨ccl, cdd, .fields vs, ccs⟩ ∧ vs[2]? = some (.str file tf) ∧ ((P.main.file : Str) == file) = true
  cod : codeIn K (.ref cda) qual = true
  fn : ∃ (oc : Value) (od : Option Addr) (kV doc pm : Value) (an : Option Addr) (ct : Value) (osl : Array (Option Value)),
    K.lookup fI = some ⟨oc, od, .func (ksFn "__init__" qual (L2.defArgs st) (L2.defBody st) (L2.defScope st) .none kV doc pm an (.ref cda) ct cc), osl⟩
theorem ld {M : Model} {s : Shared} {env : Env} {m : Str → Option Value} {x : Str} {pos : Pos} {v : Value} {Q : Value → Shared → Prop} {A : Around} {E : Value → Shared → Prop} (hn : s.heap.Ns env.locals m) (hv : m x = some v) (h : Q v s)
    (hk : env.scope.kind = .function) (hl : env.kindOf x = some .local) (hd : (x == ("__debug__" : Str)) = false := by decide) :
    wpAny M A (eval (.Name x pos) env) Q E s := wpAny_Name (wpAny_loadName_local hk hl hn hv h) hd
theorem kept_but {K : Frag} {h h' : Heap} {x : Addr} (X : K.In h) (hx : K.lookup x = none) (k : ∀ b o, b ≠ x → h.get? b = some o → h'.get? b = some o) : K.In h' := fun a o e =>
  k a o (fun z => by rw [z, hx] at e; cases e) (X a o e)
theorem one_le (v : Value) : [v].length ≤ sizeLine := by
  rw [sizeLine_eq]
  exact (by decide : 1 ≤ 16777216)
section
variable {P : Program} {w : World} {A : Around} {E : Value → Shared → Prop} {K : Frag} {mg mb : Str → Option Value} {st : Stmt} {qual par fld : Str} {C fI cda cc : Addr}
/-- super().__init__('..'): only the error itself is changed -/
theorem sup_stmt (T : XT P K mg st qual par fld C fI cda cc) {body : List Stmt} {scope : Scope} {L x t0 : Addr} {m : Str → Option Value} {s : Shared} {ar : Arg} {txt : Str} {j : Nat} {p0 p1 p2 p3 p4 p5 : Pos} {Q : Flow → Shared → Prop}
    (X : K.In s.heap) (hg : s.heap.Ns mainGlobals mg) (hb : s.heap.Ns builtinsNs mb) (hmb : mb "super" = some (.type "super")) (hns : s.heap.Ns L m) (har : ((L2.defArgs st).posonlyargs ++ (L2.defArgs st).args).head? = some ar) (hself : m ar.arg = some (.ref x))
    (hx : s.heap.get? x = some (excO C t0)) (htop : (P.main.scope.names.lookup ("super" : Str)).isSome = false)
    (hks : scope.names.lookup ("super" : Str) = some .globalImplicit) (hkc : scope.names.lookup ("__class__" : Str) = some .free) (hka : scope.names.lookup ar.arg = some .local) (hk : scope.kind = .function)
    (hev : ∃ pl, eval (.Call (.Attribute (.Call (.Name "super" p0) [] [] p1) "__init__" p2) [.Constant (.str txt) j p3] [] p4) (ksEnv qual scope L fI (.ref cda) cc) = (do
      let ov ← attributeBase (.Call (.Name "super" p0) [] [] p1) "__init__" (ksEnv qual scope L fI (.ref cda) cc) (eval (.Call (.Name "super" p0) [] [] p1) (ksEnv qual scope L fI (.ref cda) cc))
      standAt p2.atName
      let (f, first) ← holding [ov] (getMethod ov "__init__" pl)
      callWith p4 f first (backTo p4 (starEach [.Constant (.str txt) j p3] (ksEnv qual scope L fI (.ref cda) cc))) []))
    (h : ∀ h' tk t1, (∀ b o, b ≠ x → s.heap.get? b = some o → h'.get? b = some o) → h'.get? x = some (excO C t1) → Q .next { s with heap := h', toks := tk }) :
    _root_.PySem.wpAt (model P w) A (.func body (ksEnv qual scope L fI (.ref cda) cc)) (exec (.Expr (.Call (.Attribute (.Call (.Name "super" p0) [] [] p1) "__init__" p2) [.Constant (.str txt) j p3] [] p4) p5) (ksEnv qual scope L fI (.ref cda) cc)) Q E s := by
  obtain ⟨nm, q, N, bs, bm, sn, sub, ab, col, dd, k0, k1, k2, k3, k5, hC, hbm⟩ := T.cls
  obtain ⟨cl, cld, csl, hcell⟩ := T.cell
  obtain ⟨ccl, cdd, vs, ccs, file, tf, hcode, hvs, hfile⟩ := T.code
  obtain ⟨oc, od, kV, doc, pm, an, ct, osl, hfn⟩ := T.fn
  have hcd : clsIn K C = some { name := nm, bases := bs, mro := .ref C :: bm, ns := N, qualname := q, hasDict := true, slotNames := sn, subclasses := sub, abstract := ab, collection := col, hasDel := false } := by unfold clsIn; rw [hC] <;> rfl
  have I : InstAt s.heap x (excO C t0) C none := ⟨hx, rfl, rfl, trivial⟩
  have hxC : x ≠ C := fun e => by
    have z := X C _ hC
    rw [← e, hx] at z
    cases z
  obtain ⟨hp, g, d, tk, os⟩ := s
  obtain ⟨pl, hev⟩ := hev
  refine ks_wpAt_Expr_any (ks_wpAt_MethodCall (pl := pl) ?_ hev) (by simp only [interactive, hk]; rfl) (by rfl)
  refine ks_wpAt_super_base (env := ksEnv qual scope L fI (.ref cda) cc) hks hkc (by decide) rfl (X _ _ hfn) rfl har rfl (X _ _ hcode) rfl hvs hfile htop ?_
  refine ks_loadName_global hk hks (loadGlobal_builtin (env := ksEnv qual scope L fI (.ref cda) cc) hg T.noS hb hmb ⟨rfl, ?_⟩)
  refine wpAny_loadName_free hk hkc rfl ⟨_, X _ _ hcell, rfl⟩ ?_
  refine wpAny_loadName_local hk hka hns hself ?_
  refine ks_wpAny_isType_cls (X _ _ hC) rfl ⟨rfl, ?_⟩
  refine ks_wpAny_call_super (X _ _ hC) rfl hx rfl (fun c e => by cases e) (looks_mroIn X T.slf) (fun h1 e1 k1 => ?_)
  have X1 := X.keeps k1
  have hx1 := k1 _ _ hx
  have suC := T.suC
  unfold ks_superIn at suC
  rw [hcd] at suC
  have I1 : InstAt h1 x (excO C t0) C none := ⟨hx1, rfl, rfl, trivial⟩
  refine kxs_getMethod (pl := _) kxs_ValueError e1 (looks_opaque X1 T.opq) (l₀ := .ref C :: bm) (fun A Q E s k q => wpAny_bind ((looks_clsIn X1 hcd) A _ E s k (wpAny_pure q))) rfl X1 suC (I1.type.andThen (looks_subIn X1 T.veC)) hxC rfl ?_
  have k2 : ∀ b o, h1.get? b = some o → (h1.push (kxs_mw "ValueError.__init__" x)).get? b = some o := fun b o e => Heap.get?_push_of_some _ e
  refine kxs_callWith (i := "ValueError.__init__") (x := x) (by rfl) (evalArgs_plain ?_)
  show wpAny _ _ (spliced (backTo p4 (starEach [.Constant (.str txt) j p3] _))) _ _ _
  refine Calls.spliced_cons (show wpAny _ _ (eval (.Constant (.str txt) j p3) (ksEnv qual scope L fI (.ref cda) cc)) _ _ _ from Calls.Constant_str (Calls.spliced_nil ?_))
  have hu : (h1.push (kxs_mw "ValueError.__init__" x)).get? h1.objs.size = some (kxs_mw "ValueError.__init__" x) := Heap.get?_push_size _ rfl
  refine ⟨hu, ?_⟩
  have X2 := X1.keeps k2
  have hx2 := k2 _ _ hx1
  refine wpAny_call (codeAny_of_tree ?_)
  show wpAny _ _ (callAny (.ref h1.objs.size) ⟨[.str txt _], []⟩) _ _ _
  simp only [callAny]
  refine wpAny_bind (wpAny_load hu ?_)
  simp only [kxs_mw, show (Value.type "method-wrapper" == Value.type "method" || Value.type "method-wrapper" == Value.type "builtin_function_or_method" || Value.type "method-wrapper" == Value.type "method-wrapper") = true by decide, if_true]
  refine KFB.if_so (by decide) ?_
  refine wpAny_bind (check_bound_init F.excBase_ValueError.toExcCallFacts (X2 _ _ hC) hx2 rfl ?_)
  refine wpAny_bind (wpAny_pure (wpAny_pure ?_))
  refine ⟨plainId_quiet F.excBase_ValueError.init.plain _, codeAny_builtin F.excBase_ValueError.initEntry ?_⟩
  refine exc_init_tree (cls := .ref C) (t0 := t0) (dv := none) (c2 := .none) (c3 := .none) (b4 := .bool false) hx2 (one_le _) fun h' k' e' t' => ?_
  exact h h' _ _ (fun b o hb e => k' b o hb (k2 b o (k1 b o e))) e'
/-- what __init__ leaves of a fresh error at x -/
structure InitEnd (h h' : Heap) (x C dx t1 : Addr) (fld : Str) (v : Value) : Prop where
  keep : ∀ b o, b ≠ x → h.get? b = some o → h'.get? b = some o
  obj : h'.get? x = some { cls := .ref C, dict := some dx, data := .fields #[.ref t1, .none, .none, .none, .bool false, .none] }
  dbig : h.objs.size ≤ dx
  dne : dx ≠ x
  ns : h'.Ns1 dx (fun y => if y = fld then some v else none)
theorem init_ok (T : XT P K mg st qual par fld C fI cda cc) {R : Result → Shared → Prop} {x t0 : Addr} {v : Value} {s : Shared} {txt : Str} {j : Nat} {p0 p1 p2 p3 p4 p5 q1 q2 q3 : Pos} {val : Expr} {aself : Arg}
    (X : K.In s.heap) (hg : s.heap.Ns mainGlobals mg) (hb : s.heap.Ns builtinsNs mb) (hmb : mb "super" = some (.type "super")) (hlim : s.heap.NoLimit) (hx : s.heap.get? x = some (excO C t0)) (hnx : K.lookup x = none) (hroom : A.depth < recursionLimit)
    (htop : (P.main.scope.names.lookup ("super" : Str)).isSome = false)
    (hbody : L2.defBody st = [.Expr (.Call (.Attribute (.Call (.Name "super" p0) [] [] p1) "__init__" p2) [.Constant (.str txt) j p3] [] p4) p5, .Assign [.Attribute (.Name "self" q1) fld q2] val q3])
    (har : ((L2.defArgs st).posonlyargs ++ (L2.defArgs st).args).head? = some aself) (has : aself.arg = "self") (hps : par ≠ ("self" : Str)) (hpd : (par == ("__debug__" : Str)) = false)
    (hbind : ∀ (kV doc pm : Value) (an : Option Addr) (ct : Value), BindsTo s (ksFn "__init__" qual (L2.defArgs st) (L2.defBody st) (L2.defScope st) .none kV doc pm an (.ref cda) ct cc) ⟨[.ref x, v], []⟩ [("self", .ref x), (par, v)])
    (hks : (L2.defScope st).names.lookup ("super" : Str) = some .globalImplicit) (hkc : (L2.defScope st).names.lookup ("__class__" : Str) = some .free) (hka : (L2.defScope st).names.lookup ("self" : Str) = some .local) (hkp : (L2.defScope st).names.lookup par = some .local)
    (hk : (L2.defScope st).kind = .function) (hco : (L2.defScope st).isCoroutine = false) (hgen : (L2.defScope st).isGenerator = false) (hnc : ∀ y ∈ (L2.defScope st).names, y.2 ≠ .cell)
    (hev : ∀ L, ∃ pl, eval (.Call (.Attribute (.Call (.Name "super" p0) [] [] p1) "__init__" p2) [.Constant (.str txt) j p3] [] p4) (ksEnv qual (L2.defScope st) L fI (.ref cda) cc) = (do
      let ov ← attributeBase (.Call (.Name "super" p0) [] [] p1) "__init__" (ksEnv qual (L2.defScope st) L fI (.ref cda) cc) (eval (.Call (.Name "super" p0) [] [] p1) (ksEnv qual (L2.defScope st) L fI (.ref cda) cc))
      standAt p2.atName
      let (f, first) ← holding [ov] (getMethod ov "__init__" pl)
      callWith p4 f first (backTo p4 (starEach [.Constant (.str txt) j p3] (ksEnv qual (L2.defScope st) L fI (.ref cda) cc))) []))
    (hsw : ∀ L, swapsWith val (some (.Attribute (.Name "self" q1) fld q2)) q3.line (ksEnv qual (L2.defScope st) L fI (.ref cda) cc) = pure false)
    (hval : ∀ (L : Addr) (s1 : Shared) (m : Str → Option Value) (A' : Around) (E' : Value → Shared → Prop) (Q : Value → Shared → Prop), s1.heap.Ns L m → m par = some v → s1.heap.Ns mainGlobals mg → s1.heap.Ns builtinsNs mb → (∀ b o, b ≠ x → s.heap.get? b = some o → s1.heap.get? b = some o) → Q v s1 →
      wpAny (model P w) A' (eval val (ksEnv qual (L2.defScope st) L fI (.ref cda) cc)) Q E' s1)
    (hq : ∀ h' tk dx t1, InitEnd s.heap h' x C dx t1 fld v → R (.ok (.ret .none)) { s with heap := h', toks := tk }) :
    codeAny (model P w) A (.call (.ref fI) ⟨[.ref x, v], []⟩) R s := by
  obtain ⟨nm, q, N, bs, bm, sn, sub, ab, col, dd, k0, k1, k2, k3, k5, hC, hbm⟩ := T.cls
  obtain ⟨oc, od, kV, doc, pm, an, ct, osl, hfn⟩ := T.fn
  have hcl : clsIn K C = some { name := nm, bases := bs, mro := .ref C :: bm, ns := N, qualname := q, hasDict := true, slotNames := sn, subclasses := sub, abstract := ab, collection := col, hasDel := false } := by unfold clsIn; rw [hC] <;> rfl
  have nogl : ∀ {n : Addr} {mm : Str → Option Value} {g : Heap}, s.heap.Ns n mm → (∀ b o, b ≠ x → s.heap.get? b = some o → g.get? b = some o) → g.Ns n mm := fun {n mm g} hn k => by
    refine hn.at fun o e => k _ _ (fun z => ?_) e
    obtain ⟨o', es, ep, e1, e2, _⟩ := hn
    rw [z, hx] at e1
    have e3 := Option.some.inj e1
    rw [← e3] at e2
    cases e2
  refine ks_codeAny_call_defAt (fd := ksFn "__init__" qual (L2.defArgs st) (L2.defBody st) (L2.defScope st) .none kV doc pm an (.ref cda) ct cc) (body := L2.defBody st) (binds := [("self", .ref x), (par, v)]) hroom (X _ _ hfn) rfl hlim (codeRec_of X T.cod) rfl (hbind kV doc pm an ct) hnc
    (fun y hy => ?_) (fun h₁ hns hk₁ => ?_) hco hgen hk
  · rcases List.mem_cons.mp hy with e | hy
    · rw [e]; exact hka
    · rcases List.mem_cons.mp hy with e | hy
      · rw [e]; exact hkp
      · cases hy
  show _root_.PySem.wpAt _ _ (.func (L2.defBody st) (ksEnv qual (L2.defScope st) s.heap.objs.size fI (.ref cda) cc)) (execs (L2.defBody st) (ksEnv qual (L2.defScope st) s.heap.objs.size fI (.ref cda) cc)) _ _ _
  have X1 := X.keeps hk₁
  have hx1 := hk₁ _ _ hx
  have mself : ([(("self" : Str), Value.ref x), (par, v)].reverse.lookup ("self" : Str)) = some (.ref x) := by
    show ([(par, v), (("self" : Str), Value.ref x)].lookup ("self" : Str)) = some (.ref x)
    have e : (("self" : Str) == par) = false := by simpa using fun z => hps z.symm
    simp [List.lookup, e]
  have mpar : ([(("self" : Str), Value.ref x), (par, v)].reverse.lookup par) = some v := by
    show ([(par, v), (("self" : Str), Value.ref x)].lookup par) = some v
    simp [List.lookup]
  generalize hbd : L2.defBody st = body0
  conv => arg 4; rw [← hbd, hbody]
  refine ks_wpAt_execs_cons (sup_stmt T X1 (hg.keeps hk₁) (hb.keeps hk₁) hmb hns har (by rw [has]; exact mself) hx1 htop hks hkc (by rw [has]; exact hka) hk (hev _) fun h2 tk2 t2 k2 hx2 => ?_)
  refine ks_wpAt_execs_cons (wpAt_of_wpAny ?_)
  have z : x ≠ s.heap.objs.size := Nat.ne_of_lt (Heap.lt_size hx)
  have hns2 : h2.Ns s.heap.objs.size _ := hns.at fun o e => k2 _ _ (Ne.symm z) e
  have kk : ∀ b o, b ≠ x → s.heap.get? b = some o → h2.get? b = some o := fun b o hb e => k2 b o hb (hk₁ b o e)
  have X2 : K.In h2 := kept_but X hnx kk
  refine plainObj_wpAny_Assign_Attribute ?_ (hsw _)
  refine hval _ _ _ _ _ _ hns2 mpar (nogl hg kk) (nogl hb kk) kk ?_
  refine ld (m := fun y => [(("self" : Str), Value.ref x), (par, v)].reverse.lookup y) (v := .ref x) hns2 mself ?_ hk hka
  refine set_plain X2 (ox := excO C t2) (od := none) ⟨hx2, rfl, rfl, trivial⟩ T.sa ?_
  refine exc_osa X2 hx2 hcl (show refsVE (.ref C :: bm) = true from hbm) rfl T.noN (fun h₃ tk₃ dx k₃ dn dne hx₃ hn₃ => ?_)
  refine wpAt_of_wpAny (wpAny_execs_nil (hq h₃ tk₃ dx t2 ⟨fun b o hb e => k₃ b o hb (kk b o hb e), hx₃, ?_, dne, hn₃⟩))
  have l2 : s.heap.objs.size < h2.objs.size := hns2.lt
  exact Nat.le_of_lt (Nat.lt_of_lt_of_le l2 dn)
end
/-- __init__(x, v) of a fresh error at x -/
def InitRun (P : Program) (w : World) (K : Frag) (mg : Str → Option Value) (C fI : Addr) (fld : Str) (ok : Heap → Value → Prop) : Prop :=
  ∀ (A : Around) (mb : Str → Option Value) (R : Result → Shared → Prop) (s : Shared) (x t0 : Addr) (v : Value), K.In s.heap → s.heap.Ns mainGlobals mg → s.heap.Ns builtinsNs mb → (∀ y : Str, y ≠ "__name__" → mb y = bootBuiltins y) → s.heap.NoLimit →
    s.heap.get? x = some (excO C t0) → K.lookup x = none → A.depth < recursionLimit → ok s.heap v → (∀ h' tk dx t1, InitEnd s.heap h' x C dx t1 fld v → R (.ok (.ret .none)) { s with heap := h', toks := tk }) →
    codeAny (model P w) A (.call (.ref fI) ⟨[.ref x, v], []⟩) R s
/-- a made error -/
structure Made (h h' : Heap) (e C d : Addr) (fld : Str) (v : Value) : Prop where
  keep : ∀ b o, h.get? b = some o → h'.get? b = some o
  new : h.objs.size ≤ e
  obj : ∃ oe vs, h'.get? e = some oe ∧ oe.cls = .ref C ∧ oe.dict = some d ∧ oe.data = .fields vs ∧ vs[1]? = some .none
  dbig : h.objs.size ≤ d
  dne : d ≠ e
  ns : h'.Ns1 d (fun y => if y = fld then some v else none)
section
variable {P : Program} {w : World} {A : Around} {K : Frag} {mg mb : Str → Option Value} {st : Stmt} {qual par fld : Str} {C fI cda cc : Addr}
theorem made_ok (T : XT P K mg st qual par fld C fI cda cc) {ok : Heap → Value → Prop} (J : InitRun P w K mg C fI fld ok) (hok : ∀ h h' v, (∀ b o, h.get? b = some o → h'.get? b = some o) → ok h v → ok h' v) {R : Result → Shared → Prop} {v : Value} {s : Shared}
    (X : K.In s.heap) (hg : s.heap.Ns mainGlobals mg) (hb : s.heap.Ns builtinsNs mb) (hmb : ∀ y : Str, y ≠ "__name__" → mb y = bootBuiltins y) (hlim : s.heap.NoLimit) (hroom : A.depth + 1 < recursionLimit) (hv : ok s.heap v)
    (hq : ∀ h' tk e d, Made s.heap h' e C d fld v → R (.ok (.ret (.ref e))) { s with heap := h', toks := tk }) :
    codeAny (model P w) A (.call (.ref C) ⟨[v], []⟩) R s := by
  obtain ⟨nm, q, N, bs, bm, sn, sub, ab, col, dd, k0, k1, k2, k3, k5, hC, hbm⟩ := T.cls
  obtain ⟨hp, g, dr, tk, os⟩ := s
  have k : ∀ b o, hp.get? b = some o → ((hp.push (kdv_tup [v])).push (excO C hp.objs.size)).get? b = some o := fun b o e => Heap.get?_push_of_some _ (Heap.get?_push_of_some _ e)
  have hget : ((hp.push (kdv_tup [v])).push (excO C hp.objs.size)).get? (hp.objs.size + 1) = some (excO C hp.objs.size) := by heap_get
  have hnx : K.lookup (hp.objs.size + 1) = none := by
    cases e : K.lookup (hp.objs.size + 1) with
    | none => rfl
    | some o =>
      have z : hp.get? (hp.objs.size + 1) = some o := X _ _ e
      exact absurd (Nat.lt_of_succ_lt (Heap.lt_size z)) (Nat.lt_irrefl _)
  refine call_own F.excBase_ValueError (fun X => refsVE_contains X bm hbm) (X _ _ hC) (looks_findIn X T.iC) (fun self => bind_fn X self T.tC) (one_le v) ?_
  refine J _ _ _ ⟨(hp.push (kdv_tup [v])).push (excO C hp.objs.size), g, dr, tk, os⟩ _ _ v (X.keeps k) (hg.keeps k) (hb.keeps k) hmb (hlim.keeps k) hget hnx ?_ (hok _ _ _ k hv) fun h' tk' dx t1 I => ?_
  · show A.depth + 1 < recursionLimit
    exact hroom
  · obtain ⟨k', hx, dn, dne, hns⟩ := I
    have old : ∀ b o, hp.get? b = some o → h'.get? b = some o := fun b o e => k' b o (Nat.ne_of_lt (Nat.lt_succ_of_lt (Heap.lt_size e))) (k b o e)
    have z : hp.objs.size + 1 + 1 ≤ dx := by
      have q := dn
      simp only [Heap.size_push] at q
      exact q
    exact ⟨rfl, hq h' tk' (hp.objs.size + 1) dx ⟨old, Nat.le_succ _, ⟨_, _, hx, rfl, rfl, rfl, rfl⟩, Nat.le_trans (Nat.le_trans (Nat.le_succ _) (Nat.le_succ _)) z, dne, hns⟩⟩
end
end K10E
namespace K10
open PySem PySem.Spec PyProof.Rows L2
theorem relO_one {fld : Str} {v : V} {v' : Value} (r : RelV v v') (f : Str) : RelO (List.lookup f [(fld, v)]) (if f = fld then some v' else none) := by
  by_cases hw : f = fld
  · subst hw
    rw [if_pos rfl]
    have q : List.lookup f [(f, v)] = some v := by simp [List.lookup]
    rw [q]
    exact r
  · rw [if_neg hw]
    have qw : (f == fld) = false := by simpa using hw
    have q2 : List.lookup f [(fld, v)] = none := by simp [List.lookup, qw]
    rw [q2]
    trivial
/-- what the error's making asks of its argument: nothing, or a tuple -/
def okAny : Heap → Value → Prop := fun _ _ => True
def okTup : Heap → Value → Prop := fun h v => ∃ a its, v = .ref a ∧ IsTup h a its
section
variable {X : Cx} {st : Stmt} {qual par fld : Str} {C fI cda cc : Addr}
/-- C(e) -/
def tMkX (C : Addr) (fld : Str) (cond : V → Hp → Prop) (ta : TA) : L2.St → Hp → XK → Prop := fun σ H Q => ta σ H fun vs H1 => ∃ v, vs = [v] ∧ cond v H1 ∧ ∀ d, H1 d = none → Q (.ref C) (some d) (upd H1 d (.xd [(fld, v)]))
theorem pmk_x {x : Str} {a : Expr} {ta : TA} {p pos : Pos} {k : Nat} {ok : Heap → Value → Prop} {cond : V → Hp → Prop} (T : K10E.XT X.prog X.K X.mg st qual par fld C fI cda cc) (J : K10E.InitRun X.prog X.w X.K X.mg C fI fld ok)
    (hok : ∀ h h' v, (∀ b o, h.get? b = some o → h'.get? b = some o) → ok h v → ok h' v) (hcond : ∀ pins σ H s v u, Inv X pins σ H s → RelV v u → cond v H → ok s.heap u) (hr : Room k X.A) (gC : X.mg x = some (.ref C)) (ha : PA X [a] ta) (hg : Gl X x)
    (hdb : (x == ("__debug__" : Str)) = false := by decide) (he : starEach (a :: []) X.env = (false, eval a X.env) :: starEach [] X.env := by rfl) (hpl : (backTo pos (starEach [] X.env)).any (·.1) = false := by rfl) :
    PMk X (.Call (.Name x p) [a] [] pos) (tMkX C fld cond ta) := by
  intro pins s σ H Q I h
  refine wpAny_Call_Name_kw (ld_glob I hg gC ?_ hdb)
  refine PySem.W.callWith_K (h₀ := X.base) I.ok.mod.kin T.kC (thn (ha.run pos pins s σ H _ I h) fun us s1 hh => ?_) he hpl
  obtain ⟨vs, H1, I1, r1, v, ev, cv, q1⟩ := hh
  subst ev
  refine ⟨I1.kIn, ?_⟩
  obtain ⟨v', rfl, rv⟩ := vals1 r1
  show wpAny _ _ (call (.ref C) [v']) _ _ _
  have hlim := I1.nolimit
  obtain ⟨mb, hb, hmb⟩ := I1.mod.blt
  have hv := hcond _ _ _ _ _ _ I1 rv cv
  obtain ⟨hp, g, dr, tk, os⟩ := s1
  refine wpAny_call (K10E.made_ok T J hok I1.kIn (I1.mod.glob.keeps I1.bk) (hb.keeps I1.bk) hmb hlim (by have := hr.dp; omega) hv fun h' tk' e d M => ?_)
  show MkP X pins σ Q (.ref e) ⟨h', g, dr, tk', os⟩
  obtain ⟨oe, fv, hoe, hc, hd, hdat, h1⟩ := M.obj
  have hns := M.ns
  obtain ⟨G', g1, g2⟩ := restrict h' fun b => decide (b ≠ e)
  have gk : ∀ b, b ≠ e → G'.get? b = h'.get? b := fun b hb => g1 b (decide_eq_true hb)
  have ge : G'.get? e = none := g2 e (by simp)
  have old : ∀ b o, hp.get? b = some o → G'.get? b = some o := fun b o q => (gk b (Nat.ne_of_lt (Nat.lt_of_lt_of_le (Heap.lt_size q) M.new))).trans (M.keep b o q)
  have ob : ObjOk X.prog X.w (upd H1 d (.xd [(fld, v)])) G' d (.xd [(fld, v)]) :=
    ⟨_, hns.at (fun o q => (gk d M.dne).trans q), fun f => relO_one rv f⟩
  have JJ : Inv X pins σ (upd H1 d (.xd [(fld, v)])) ⟨G', g, dr, tk', os⟩ := I1.laid (t' := tk') old M.dbig ob
  refine ⟨e, oe, fv, ⟨G', g, dr, tk', os⟩, _, .ref C, some d, rfl, JJ, fun b o q => ?_, ge, hoe, ⟨hc, hd⟩, hdat, h1, ?_, rfl, I1.bare, raises_own T.exC T.tyC, q1 d (I1.hok.fresh M.dbig)⟩
  · by_cases hb : b = e
    · have q' : G'.get? b = some o := q
      rw [hb, ge] at q'; cases q'
    · exact (gk b hb).symm.trans q
  · rw [upd_ne (Ne.symm M.dne)]
    exact I1.hok.fresh M.new
end
end K10
set_option maxHeartbeats 4000000
namespace K10
open PySem PySem.Spec PyProof.Rows L2
def tp (i : Nat) : Stmt := PySem.Challenge.pw_lumpplans_k10_whole_wrong_places.main.body.getD i (.Pass ⟨0, 0, 0, 0⟩)
abbrev PP : Program := PySem.Challenge.pw_lumpplans_k10_whole_wrong_places
abbrev sTabI : Stmt := inClass (tp 3) 0
abbrev sPlanErrI : Stmt := inClass (tp 4) 0
abbrev sTextI : Stmt := inClass (tp 5) 0
section
open PySem.W PySem.Calls
variable {w : World} {K : Frag} {mg : Str → Option Value} {C fI cda cc : Addr}
theorem ir_text (T : K10E.XT PP K mg sTextI "BadText.__init__" "place" "place" C fI cda cc) : K10E.InitRun PP w K mg C fI "place" okAny := by
  intro A mb R s x t0 v X hg hb hmb hlim hx hnx hroom hv hq
  refine K10E.init_ok T X hg hb ((hmb _ (by decide)).trans (by decide +kernel)) hlim hx hnx hroom (by decide +kernel) (by rfl) (by rfl) (by rfl) (by decide) (by decide) (fun _ _ _ _ _ => .of_eq rfl) (by rfl) (by rfl) (by rfl) (by rfl) (by rfl) (by rfl) (by rfl) (by decide +kernel)
    (fun L => ⟨_, by rfl⟩) (fun L => by rfl) (fun L s1 m A' E' Q hn hm _ _ _ q => K10E.ld hn hm q (by rfl) (by rfl)) hq
theorem tup_val {s1 : Shared} {m : Str → Option Value} {A' : Around} {E' : Value → Shared → Prop} {Q : Value → Shared → Prop} {env : Env} {v : Value} {mb : Str → Option Value} {p1 p2 p3 : Pos} (hk : env.scope.kind = .function) (hp : env.kindOf "path" = some .local) (ht : env.scope.names.lookup ("tuple" : Str) = some .globalImplicit)
    (hgl : env.globals = mainGlobals) (hbl : env.builtins = builtinsNs) (hn : s1.heap.Ns env.locals m) (hm : m "path" = some v) (hg : s1.heap.Ns mainGlobals mg) (hmg : mg "tuple" = none) (hb : s1.heap.Ns builtinsNs mb) (hmb : mb "tuple" = some (.type "tuple")) (hv : okTup s1.heap v) (q : Q v s1) :
    wpAny (model PP w) A' (eval (.Call (.Name "tuple" p1) [.Name "path" p2] [] p3) env) Q E' s1 := by
  refine wpAny_Call_Name_kw (Calls.Name_function_global hk ht (Calls.loadGlobal_builtin (by rw [hgl]; exact hg) hmg (by rw [hbl]; exact hb) hmb ?_) (by decide))
  refine PyProof.Rows.callWith_type1 ?_
  refine Calls.spliced_cons (show wpAny _ _ (eval (.Name "path" p2) env) _ _ _ from K10E.ld hn hm (Calls.spliced_nil ?_) hk hp)
  obtain ⟨a, its, rfl, pl⟩ := hv
  exact call_tuple_same pl q
theorem okTup_keeps {h h' : Heap} {v : Value} (k : ∀ b o, h.get? b = some o → h'.get? b = some o) (z : okTup h v) : okTup h' v := by
  obtain ⟨a, its, rfl, o, e, r⟩ := z
  exact ⟨a, its, rfl, o, k _ _ e, r⟩
theorem okTup_but {h h' : Heap} {v : Value} {x t0 : Addr} (hx : h.get? x = some (HandSPX.excO C t0)) (k : ∀ b o, b ≠ x → h.get? b = some o → h'.get? b = some o) (z : okTup h v) : okTup h' v := by
  obtain ⟨a, its, rfl, o, e, c, n, d⟩ := z
  refine ⟨a, its, rfl, o, k _ _ (fun z => ?_) e, c, n, d⟩
  rw [z, hx] at e
  have e' := Option.some.inj e
  rw [← e'] at d
  cases d
theorem ir_tab (T : K10E.XT PP K mg sTabI "BadTable.__init__" "path" "path" C fI cda cc) (nt : mg "tuple" = none) : K10E.InitRun PP w K mg C fI "path" okTup := by
  intro A mb R s x t0 v X hg hb hmb hlim hx hnx hroom hv hq
  refine K10E.init_ok T X hg hb ((hmb _ (by decide)).trans (by decide +kernel)) hlim hx hnx hroom (by decide +kernel) (by rfl) (by rfl) (by rfl) (by decide) (by decide) (fun _ _ _ _ _ => .of_eq rfl) (by rfl) (by rfl) (by rfl) (by rfl) (by rfl) (by rfl) (by rfl) (by decide +kernel)
    (fun L => ⟨_, by rfl⟩) (fun L => by rfl) (fun L s1 m A' E' Q hn hm hg1 hb1 k q => tup_val (by rfl) (by rfl) (by rfl) (by rfl) (by rfl) hn hm hg1 nt hb1 ((hmb _ (by decide)).trans (by decide +kernel)) (okTup_but hx k hv) q) hq
theorem ir_plan (T : K10E.XT PP K mg sPlanErrI "BadPlan.__init__" "path" "path" C fI cda cc) (nt : mg "tuple" = none) : K10E.InitRun PP w K mg C fI "path" okTup := by
  intro A mb R s x t0 v X hg hb hmb hlim hx hnx hroom hv hq
  refine K10E.init_ok T X hg hb ((hmb _ (by decide)).trans (by decide +kernel)) hlim hx hnx hroom (by decide +kernel) (by rfl) (by rfl) (by rfl) (by decide) (by decide) (fun _ _ _ _ _ => .of_eq rfl) (by rfl) (by rfl) (by rfl) (by rfl) (by rfl) (by rfl) (by rfl) (by decide +kernel)
    (fun L => ⟨_, by rfl⟩) (fun L => by rfl) (fun L s1 m A' E' Q hn hm hg1 hb1 k q => tup_val (by rfl) (by rfl) (by rfl) (by rfl) (by rfl) hn hm hg1 nt hb1 ((hmb _ (by decide)).trans (by decide +kernel)) (okTup_but hx k hv) q) hq
end
end K10
set_option maxHeartbeats 4000000
namespace K10
open PySem PySem.Spec PyProof.Rows L2
open SX (S S_len S_inj S_cat)
abbrev sIsWord : Stmt := tp 9
abbrev sRunEnd : Stmt := tp 13
abbrev sLexAt : Stmt := tp 14
/-- what the module's names hold -/
structure GT (K : PySem.W.Frag) (mg : Str → Option Value) : Prop where
  len : mg "len" = none
  isi : mg "isinstance" = none
  rng : mg "range" = none
  all : mg "all" = none
  enum : mg "enumerate" = none
  tup : mg "tuple" = none
  lst : mg "list" = none
  str : mg "str" = none
  int : mg "int" = none
  max : mg "max" = none
  rep : mg "repr" = none
  srt : mg "sorted" = none
  abs : mg "abs" = none
  lets : ∃ t, mg "LETTERS" = some (.str "abcdefghijklmnopqrstuvwxyz" t)
  figs : ∃ t, mg "FIGURES" = some (.str "0123456789" t)
  blanks : ∃ t, mg "BLANKS" = some (.str " \n" t)
  signs : ∃ t, mg "SIGNS" = some (.str "(){},;" t)
/-- a def of the module by its name -/
structure Fn (K : PySem.W.Frag) (mg : Str → Option Value) (x : Str) (st : Stmt) (f : Addr) (fd : FuncData) (ps : List Str) : Prop where
  F : Fun K x x st f fd
  g : mg x = some (.ref f)
  b : Binds K fd ps []
theorem s_lets : ("abcdefghijklmnopqrstuvwxyz" : Str) = S lets := by decide +kernel
theorem s_figs : ("0123456789" : Str) = S figs := by decide +kernel
theorem s_blanks : (" \n" : Str) = S blanks := by decide +kernel
theorem s_signs : ("(){},;" : Str) = S signs := by decide +kernel
theorem s_nil : ("" : Str) = S [] := by decide +kernel
abbrev sLRun : Stmt := tp 39
section
variable {P : Program} {w : World} {K : PySem.W.Frag} {mg : Str → Option Value} {base : Heap}
theorem if_true_of {c : Bool} {A B : Prop} (hc : c = true) (h : A) : if c = true then A else B := by
  rw [if_pos hc]
  exact h
theorem if_false_of {c : Bool} {A B : Prop} (hc : c = false) (h : B) : if c = true then A else B := by
  rw [hc, if_neg Bool.false_ne_true]
  exact h
theorem yes_of {Q : Bool → Hp → Prop} {σ : L2.St} {H : Hp} (h : Q true H) : tYes σ H Q := h
theorem S_at {cs : Cs} {p c : Nat} (h : cs[p]? = some c) : (S cs).cps[p]? = some c := by
  show (cs.toArray)[p]? = some c
  rw [List.getElem?_toArray]
  exact h
theorem S_list (cs : Cs) : (S cs).cps.toList = cs := rfl
/-- i not in r -/
theorem op_notIn_rng {X : Cx} : OpR X (compareOp .NotIn) (fun x y H Q => ∃ i a lo hi, x = V.int i ∧ y = V.ref a ∧ H a = some (.rng lo hi) ∧ Q (.bl (!decide (lo ≤ i ∧ i < hi))) H) := by
  intro pins s σ H x y v u Q I rx ry h
  obtain ⟨i, a, lo, hi, rfl, rfl, ha, q⟩ := h
  obtain ⟨k, rfl⟩ := rx
  obtain rfl : u = Value.ref a := ry
  obtain ⟨t1, t2, t3, ho⟩ := I.hok a _ ha
  show wpAny _ _ (do return Value.bool (!(← contains (Value.ref a) (Value.int i k)))) _ _ s
  refine wpAny_bind (wpAny_contains_slot (T := "range") ⟨_, ho, rfl⟩ F.slot_range_contains (call_meets F.slot_range_contains ⟨_, ho, rfl⟩ F.entry_range_contains (F.args_range_contains_2 _ _) (q_contains a lo hi i t1 t2 t3 k)
    ⟨ho, wpAny_truthy_bool (wpAny_pure ⟨.bl _, H, I, rfl, ?_⟩)⟩))
  rw [place1]
  exact q
/-- run_end(text, place, signs) -/
def spRun : Sp := fun vs H Q _ => ∃ (cs sg : Cs) (p : Nat), vs = [.str (S cs), .int p, .str (S sg)] ∧ p ≤ cs.length ∧ cs.length < sizeLine ∧ Q (.int (runEnd cs p sg : Nat)) H
theorem scRun : FnScope ["text", "place", "signs"] ["text", "place", "signs"] (defScope sRunEnd) := ⟨rfl, rfl, rfl, by decide +kernel, rfl, by decide +kernel, by decide +kernel⟩
theorem ok_run {f : Addr} {fd : FuncData} (F : Fun K "run_end" "run_end" sRunEnd f fd) (nl : mg "len" = none) : FnOk P w K mg base CX0 1 f fd ["text", "place", "signs"] spRun := by
  refine F.ok scRun (fun vs H Q E h => ?_) (fun cdv A outer s H vs Q E hr h => ?_)
  · obtain ⟨cs, sg, p, rfl, _⟩ := h
    rfl
  · obtain ⟨cs, sg, p, rfl, hp, hz, q⟩ := h
    refine ⟨_, pss_cons (ps_while PassesOwn.never (PW.pt (pw_and (pt_cmpR op_lt (pv 1) (pe_callB call_len_str (by rfl) nl PySem.boot_len (pa_cons (pv 0) pa_nil)) (nomark _))
        (pw_and1 (pt_cmpR op_in_sign (pe_item_str (pv 0) (pv 1) (fun _ _ => rfl)) (pv 2) rfl))))
        (pss_one (ps_aug (i := 1) scRun.nd rfl (Or.inl rfl) pe_int ip_add)))
      (pss_one (ps_ret (pv 1))), ?_⟩
    refine ⟨fun m σ H' => H' = H ∧ ∃ k : Nat, m = cs.length - k ∧ σ = [some (.str (S cs)), some (.int k), some (.str (S sg))] ∧ k ≤ cs.length ∧ runEnd cs k sg = runEnd cs p sg, ⟨_, rfl, p, rfl, rfl, hp, rfl⟩, ?_⟩
    rintro m σ H' ⟨rfl, k, rfl, rfl, hk, e⟩
    refine ⟨_, rfl, _, rfl, S cs, rfl, by rw [S_len]; exact Nat.le_of_lt hz, _, _, rfl, rfl, _, rfl, ?_⟩
    rw [S_len]
    by_cases hlt : k < cs.length
    · refine if_true_of (decide_eq_true (by omega)) ?_
      obtain ⟨c, hc⟩ : ∃ c, cs[k]? = some c := ⟨cs[k], List.getElem?_eq_getElem hlt⟩
      refine ⟨_, rfl, _, rfl, S cs, k, c, rfl, rfl, by omega, by have : sizeLine = 16777216 := sizeLine_eq; omega, by rw [S_len]; omega, S_at hc, _, rfl, c, _, rfl, rfl, _, rfl, ?_⟩
      rw [S_list]
      by_cases hm : c ∈ sg
      · refine if_true_of (decide_eq_true hm) ?_
        refine ⟨fun σ' H' => ∃ m', m' < cs.length - k ∧ _, fun _ _ z => z, ?_⟩
        refine ⟨_, rfl, _, _, rfl, rfl, cs.length - (k + 1), by omega, rfl, k + 1, rfl, rfl, hlt, ?_⟩
        rw [runEnd_in hc hm]
        exact e
      · refine if_false_of (decide_eq_false hm) ?_
        refine ⟨_, rfl, ?_⟩
        rw [runEnd_out hc hm] at e
        rw [e]
        exact q
    · refine if_false_of (decide_eq_false (by omega)) ?_
      refine if_false_of rfl ?_
      refine ⟨_, rfl, ?_⟩
      rw [runEnd_end (by omega)] at e
      rw [e]
      exact q
/-- is_word(value), value a text -/
def spWord : Sp := fun vs H Q _ => ∃ l : Cs, vs = [.str (S l)] ∧ l.length < sizeLine ∧ ∀ H', Same H H' → Q (.bl (isWord l)) H'
theorem scWord : FnScope ["value", "sign"] ["value"] (defScope sIsWord) := ⟨rfl, rfl, rfl, by decide +kernel, rfl, by decide +kernel, by decide +kernel⟩
theorem ok_word {f : Addr} {fd : FuncData} (F : Fun K "is_word" "is_word" sIsWord f fd) (T : GT K mg) : FnOk P w K mg base CX0 1 f fd ["value"] spWord := by
  obtain ⟨t1, e1⟩ := T.lets
  obtain ⟨t2, e2⟩ := T.figs
  rw [s_lets] at e1
  rw [s_figs] at e2
  refine F.ok scWord (fun vs H Q E h => ?_) (fun cdv A outer s H vs Q E hr h => ?_)
  · obtain ⟨l, rfl, _⟩ := h
    rfl
  · obtain ⟨l, rfl, hz, q⟩ := h
    refine ⟨_, pss_cons (ps_if (PW.pt (pw_or (pt_not (pt_val (pe_callB call_isi (by rfl) T.isi (by decide +kernel) (pa_cons (pv 0) (pa_cons (pe_bltn (v := .ty "str") (by rfl) T.str (by decide +kernel) rfl) pa_nil)))))
        (pw_or (pt_cmpR op_notIn_rng (pe_callB call_len_str (by rfl) T.len PySem.boot_len (pa_cons (pv 0) pa_nil)) (pe_callTy cr_range2 (by rfl) T.rng boot_range (pa_cons pe_int (pa_cons pe_int pa_nil))) (by rfl))
          (pw_or1 (pt_cmpR op_notIn_sign (pe_item_str (pv 0) pe_int (fun _ _ => rfl)) (pe_glob (v := .str (S lets)) (by rfl) e1 ⟨_, rfl⟩) (by rfl))))))
        (pss_one (ps_ret pe_bl)) pss_nil)
      (pss_one (ps_ret (pe_callB (cr_all rfl) (by rfl) T.all (by decide +kernel) (pa_cons
        (pe_lc (own := [("sign", 1)]) (g := gName 1) (tt := tYes) rfl scWord.nd (pi_str (pv 0)) (blkOk_by (N := ["value", "sign"]) (sc := defScope sIsWord) (by decide +kernel)) (fun _ _ _ _ _ => pg_name (i := 1) scWord.nd rfl (Or.inl rfl)) (fun _ _ _ _ _ => pts_nil)
          (fun _ _ _ _ _ => pe_or (pe_cmpR op_in_sign (pv 1) (pe_glob (v := .str (S lets)) (by rfl) e1 ⟨_, rfl⟩) (by rfl)) (pe_one (pe_cmpR op_in_sign (pv 1) (pe_glob (v := .str (S figs)) (by rfl) e2 ⟨_, rfl⟩) (by rfl))))) pa_nil)))), ?_⟩
    have z0 : sizeLine = 16777216 := sizeLine_eq
    refine ⟨_, rfl, _, _, _, _, true, rfl, .ty "str", .base (.str _), kit_ty (by decide +kernel), true, rfl, if_false_of rfl ?_⟩
    refine ⟨_, rfl, S l, rfl, by rw [S_len]; omega, 1, 13, rfl, fun p hp => ?_⟩
    have s1 : Same H (upd H p (.rng 1 13)) := fun b o e => by rw [upd_ne (ne_of_none e hp)]; exact e
    refine ⟨_, p, 1, 13, rfl, rfl, upd_same, _, rfl, ?_⟩
    rw [S_len]
    by_cases hl : 1 ≤ l.length ∧ l.length ≤ 12
    · refine if_false_of (by rw [decide_eq_true (by omega)]; rfl) ?_
      obtain ⟨c, r, e⟩ : ∃ c r, l = c :: r := by
        cases l with
        | nil => exact absurd hl.1 (by simp)
        | cons c r => exact ⟨c, r, rfl⟩
      refine ⟨_, rfl, S l, 0, c, rfl, rfl, by decide, by decide, by rw [S_len]; omega, S_at (by rw [e]; rfl), c, S lets, rfl, rfl, _, rfl, ?_⟩
      rw [S_list]
      by_cases hc : c ∈ lets
      · refine if_false_of (by rw [decide_eq_true hc]; rfl) ?_
        have hw : isWord l = l.all fun c => decide (c ∈ lets ++ figs) := isWord_rest hl.1 hl.2 (by rw [e]; exact decide_eq_true hc)
        refine ⟨_, rfl, S l, rfl, fun D hD => lc_it walk_str (fun i H' => Same (upd H p (.rng 1 13)) H' ∧ H' D = some (.lst (((l.take i).map fun c => decide (c ∈ lets ++ figs)).map V.bl))) ⟨fun b o e => ?_, upd_same⟩ (fun _ _ _ _ => trivial) ?_ ?_⟩
        · rw [upd_ne (ne_of_none e hD)]; exact e
        · rintro i x H1 H2 hi ⟨s2, hd⟩ ⟨rfl, c', hc', rfl⟩
          have hc2 : l[i]? = some c' := by
            have : (l.toArray)[i]? = some c' := hc'
            rw [List.getElem?_toArray] at this
            exact this
          have etake : l.take (i + 1) = l.take i ++ [c'] := by rw [List.take_add_one, hc2]; rfl
          have iz : i < l.length := (List.getElem?_eq_some_iff.mp hc2).1
          have fin : ∀ b : Bool, b = decide (c' ∈ lets ++ figs) → ∃ acc, H2 D = some (.lst acc) ∧ acc.length < sizeLine ∧ (Same (upd H p (.rng 1 13)) (upd H2 D (.lst (acc ++ [V.bl b]))) ∧ upd H2 D (.lst (acc ++ [V.bl b])) D = some (.lst (((l.take (i + 1)).map fun c => decide (c ∈ lets ++ figs)).map V.bl))) := fun b eb => by
            refine ⟨_, hd, by rw [List.length_map, List.length_map, List.length_take]; omega, fun b' o' e' => ?_, ?_⟩
            · have : b' ≠ D := fun z => by rw [z, hD] at e'; cases e'
              rw [upd_ne this]; exact s2 _ _ e'
            · rw [upd_same, etake, List.map_append, List.map_append, eb]; rfl
          refine ⟨rfl, yes_of (iteT ?_)⟩
          refine ⟨_, rfl, c', S lets, rfl, rfl, _, rfl, ?_⟩
          rw [S_list]
          by_cases m1 : c' ∈ lets
          · refine if_true_of (decide_eq_true m1) (fin true ?_)
            exact (decide_eq_true (List.mem_append_left _ m1)).symm
          · refine if_false_of (decide_eq_false m1) ?_
            refine ⟨_, rfl, c', S figs, rfl, rfl, fin _ ?_⟩
            rw [S_list]
            simp [m1]
        · rintro H' ⟨s2, hd⟩
          refine ⟨D, _, rfl, SqL.of hd, ?_⟩
          have e3 : (((l.take (S l).cps.size).map fun c => decide (c ∈ lets ++ figs)).all id) = isWord l := by
            rw [hw, List.take_of_length_le (by show l.length ≤ l.toArray.size; simp), List.all_map]
            rfl
          rw [e3]
          exact q _ (s1.trans s2)
      · refine if_true_of (by rw [decide_eq_false hc]; rfl) ?_
        have e4 : isWord l = false := isWord_head (by rw [e]; exact decide_eq_false hc)
        show Q (.bl false) _
        rw [← e4]
        exact q _ s1
    · refine if_true_of (by rw [decide_eq_false (by omega)]; rfl) ?_
      show Q (.bl false) _
      rw [← isWord_long hl]
      exact q _ s1
def kname : Kd → Cs
  | .fin => [101, 110, 100]
  | .sgn => [115, 105, 103, 110]
  | .num => [110, 117, 109, 98, 101, 114]
  | .wrd => [119, 111, 114, 100]
  | .bad => [110, 111, 110, 101]
theorem s_fin : ("end" : Str) = S (kname .fin) := by decide +kernel
theorem s_sgn : ("sign" : Str) = S (kname .sgn) := by decide +kernel
theorem s_num : ("number" : Str) = S (kname .num) := by decide +kernel
theorem s_wrd : ("word" : Str) = S (kname .wrd) := by decide +kernel
theorem s_bad : ("none" : Str) = S (kname .bad) := by decide +kernel
theorem s_zero : ("0" : Str) = S [48] := by decide +kernel
/-- a lexeme as the program holds it -/
def lxV (L : Lx) : List V := [.str (S (kname L.k)), .str (S L.s), .int (L.p : Nat)]
theorem cut_S {cs : Cs} {a b : Nat} (ha : a ≤ cs.length) (hb : b ≤ cs.length) : cutS (S cs) (some (a : Int)) (some (b : Int)) = S (cut cs a b) := by
  unfold cutS cut
  rw [HT.sIx_nat, HT.sIx_nat, S_len, Nat.min_eq_left ha, Nat.min_eq_left hb]
theorem same_upd {H : Hp} {p : Addr} {o : HO} (hp : H p = none) : Same H (upd H p o) := fun b u e => by rw [upd_ne (ne_of_none e hp)]; exact e
theorem dec_S {a b : Cs} : decide (V.str (S a) = V.str (S b)) = decide (a = b) := by
  by_cases e : a = b
  · subst e; simp
  · rw [decide_eq_false e, decide_eq_false]
    intro z
    exact e (S_inj (V.str.inj z))
def spLexAt : Sp := fun vs H Q _ => ∃ (cs : Cs) (p : Nat), vs = [.str (S cs), .int p] ∧ p ≤ cs.length ∧ cs.length < sizeLine ∧ ∀ H' t, Same H H' → H t = none → H' t = some (.tup (lxV (lexAt cs p))) → Q (.ref t) H'
theorem scLexAt : FnScope ["text", "place", "sign", "run"] ["text", "place"] (defScope sLexAt) := ⟨rfl, rfl, rfl, by decide +kernel, rfl, by decide +kernel, by decide +kernel⟩
theorem ok_lexAt {f fR fW : Addr} {fd fdR fdW : FuncData} (F : Fun K "lexeme_at" "lexeme_at" sLexAt f fd) (T : GT K mg) (NR : Fn K mg "run_end" sRunEnd fR fdR ["text", "place", "signs"]) (NW : Fn K mg "is_word" sIsWord fW fdW ["value"]) :
    FnOk P w K mg base CX0 2 f fd ["text", "place"] spLexAt := by
  obtain ⟨t1, e1⟩ := T.lets
  obtain ⟨t2, e2⟩ := T.figs
  obtain ⟨t3, e3⟩ := T.blanks
  obtain ⟨t4, e4⟩ := T.signs
  rw [s_lets] at e1
  rw [s_figs] at e2
  rw [s_blanks] at e3
  rw [s_signs] at e4
  have GR : FnOk P w K mg base CX0 1 fR fdR ["text", "place", "signs"] spRun := ok_run NR.F T.len
  have GW : FnOk P w K mg base CX0 1 fW fdW ["value"] spWord := ok_word NW.F T
  refine F.ok scLexAt (fun vs H Q E h => ?_) (fun cdv A outer s H vs Q E hr h => ?_)
  · obtain ⟨l, p, rfl, _⟩ := h
    rfl
  · obtain ⟨cs, p0, rfl, hp0, hz, q⟩ := h
    refine ⟨_, pss_cons (ps_set (i := 1) scLexAt.nd rfl (Or.inl rfl) (pe_call GR hr (by rfl) NR.g NR.F.kp NR.b .nil pass0 (pa_cons (pv 0) (pa_cons (pv 1) (pa_cons (pe_glob (v := .str (S blanks)) (by rfl) e3 ⟨_, rfl⟩) pa_nil)))))
      (pss_cons (ps_if (pt_cmpR op_eq (pv 1) (pe_callB call_len_str (by rfl) T.len PySem.boot_len (pa_cons (pv 0) pa_nil)) (nomark _)) (pss_one (ps_ret (pe_tup (pa_cons pe_str (pa_cons pe_str (pa_cons (pv 1) pa_nil)))))) pss_nil)
      (pss_cons (ps_set (i := 2) scLexAt.nd rfl (Or.inl rfl) (pe_item_str (pv 0) (pv 1) (fun _ _ => rfl)))
      (pss_cons (ps_if (pt_cmpR op_in_sign (pv 2) (pe_glob (v := .str (S signs)) (by rfl) e4 ⟨_, rfl⟩) (by rfl)) (pss_one (ps_ret (pe_tup (pa_cons pe_str (pa_cons (pv 2) (pa_cons (pv 1) pa_nil)))))) pss_nil)
      (pss_cons (ps_if (pt_cmpR op_in_sign (pv 2) (pe_glob (v := .str (S figs)) (by rfl) e2 ⟨_, rfl⟩) (by rfl)) (pss_one (ps_ret (pe_tup (pa_cons pe_str (pa_cons
          (pe_slice sl_str (pv 0) (po_some (pv 1)) (po_some (pe_ifExp (pt_cmpR op_eq (pv 2) pe_str (nomark _)) (pe_op op_add (pv 1) pe_int)
            (pe_call GR hr (by rfl) NR.g NR.F.kp NR.b .nil pass0 (pa_cons (pv 0) (pa_cons (pv 1) (pa_cons (pe_glob (v := .str (S figs)) (by rfl) e2 ⟨_, rfl⟩) pa_nil))))))) (pa_cons (pv 1) pa_nil)))))) pss_nil)
      (pss_cons (ps_set (i := 3) scLexAt.nd rfl (Or.inl rfl) (pe_slice sl_str (pv 0) (po_some (pv 1)) (po_some
            (pe_call GR hr (by rfl) NR.g NR.F.kp NR.b .nil pass0 (pa_cons (pv 0) (pa_cons (pv 1) (pa_cons (pe_op op_add_str (pe_glob (v := .str (S lets)) (by rfl) e1 ⟨_, rfl⟩) (pe_glob (v := .str (S figs)) (by rfl) e2 ⟨_, rfl⟩)) pa_nil)))))))
      (pss_one (ps_ret (pe_ifExp (pt_val (pe_call GW hr (by rfl) NW.g NW.F.kp NW.b .nil pass0 (pa_cons (pv 3) pa_nil))) (pe_tup (pa_cons pe_str (pa_cons (pv 3) (pa_cons (pv 1) pa_nil)))) (pe_tup (pa_cons pe_str (pa_cons pe_str (pa_cons (pv 1) pa_nil)))))))))))), ?_⟩
    have z0 : sizeLine = 16777216 := sizeLine_eq
    have hle := runEnd_le (sg := blanks) hp0
    have z3 : (3 : Nat) ≤ sizeLine := by omega
    refine ⟨_, rfl, _, rfl, cs, blanks, p0, rfl, hp0, hz, ?_⟩
    refine ⟨_, rfl, _, rfl, S cs, rfl, by rw [S_len]; omega, rfl, _, rfl, ?_⟩
    rw [S_len]
    by_cases hf : runEnd cs p0 blanks = cs.length
    · refine if_true_of (decide_eq_true (by rw [hf])) ?_
      refine ⟨_, rfl, z3, fun t ht => ?_⟩
      refine q _ t (same_upd ht) ht ?_
      rw [upd_same, lexAt_fin (by rw [hf]; simp), s_fin, s_nil]
      rfl
    · refine if_false_of (decide_eq_false fun z => hf (by have := V.int.inj z; omega)) ?_
      have hlt : runEnd cs p0 blanks < cs.length := by omega
      obtain ⟨c, hc⟩ : ∃ c, cs[runEnd cs p0 blanks]? = some c := ⟨_, List.getElem?_eq_getElem hlt⟩
      refine ⟨_, rfl, _, rfl, S cs, (runEnd cs p0 blanks : Nat), c, rfl, rfl, by omega, by omega, by rw [S_len]; omega, S_at hc, ?_⟩
      refine ⟨_, rfl, c, S signs, rfl, rfl, _, rfl, ?_⟩
      rw [S_list]
      by_cases h1 : c ∈ signs
      · refine if_true_of (decide_eq_true h1) ?_
        refine ⟨_, rfl, _, rfl, z3, fun t ht => ?_⟩
        refine q _ t (same_upd ht) ht ?_
        rw [upd_same, lexAt_sgn hc h1, s_sgn]
        rfl
      · refine if_false_of (decide_eq_false h1) ?_
        refine ⟨_, rfl, c, S figs, rfl, rfl, _, rfl, ?_⟩
        rw [S_list]
        by_cases h2 : c ∈ figs
        · refine if_true_of (decide_eq_true h2) ?_
          have fin : ∀ b : Nat, b ≤ cs.length → cut cs (runEnd cs p0 blanks) b = numAt cs (runEnd cs p0 blanks) c → ∀ t, H t = none → Q (.ref t) (upd H t (.tup [.str "number", .str (cutS (S cs) (some (runEnd cs p0 blanks : Nat)) (some (b : Nat))), .int (runEnd cs p0 blanks : Nat)])) := fun b hb e t ht => by
            refine q _ t (same_upd ht) ht ?_
            rw [upd_same, lexAt_num hc h1 h2, s_num, cut_S hle hb, e] <;> rfl
          refine ⟨_, rfl, _, rfl, _, rfl, _, rfl, rfl, _, rfl, ?_⟩
          rw [s_zero]
          by_cases h3 : c = 48
          · refine if_true_of (decide_eq_true (by rw [h3] <;> rfl)) ?_
            refine ⟨_, rfl, _, _, rfl, rfl, _, rfl, S cs, rfl, by rw [S_len]; omega, _, rfl, z3, ?_⟩
            refine fin (runEnd cs p0 blanks + 1) hlt ?_
            unfold numAt
            rw [if_pos h3]
          · refine if_false_of (decide_eq_false fun z => h3 (by have := S_inj (a := [c]) (V.str.inj z); exact (List.cons.inj this).1)) ?_
            refine ⟨_, rfl, _, rfl, cs, figs, _, rfl, hle, hz, _, rfl, S cs, rfl, by rw [S_len]; omega, _, rfl, z3, ?_⟩
            refine fin (runEnd cs (runEnd cs p0 blanks) figs) (runEnd_le hle) ?_
            unfold numAt
            rw [if_neg h3]
        · refine if_false_of (decide_eq_false h2) ?_
          have hle2 := runEnd_le (sg := lets ++ figs) hle
          refine ⟨_, rfl, _, rfl, _, rfl, _, rfl, _, rfl, S lets, S figs, rfl, rfl, by decide, cs, lets ++ figs, runEnd cs p0 blanks, by rw [S_cat]; rfl, hle, hz, _, rfl, S cs, rfl, by rw [S_len]; omega, ?_⟩
          have er : cutS (S cs) (some (runEnd cs p0 blanks : Nat)) (some (runEnd cs (runEnd cs p0 blanks) (lets ++ figs) : Nat)) = S (runAt cs (runEnd cs p0 blanks)) := cut_S hle hle2
          rw [er]
          have hlr : (runAt cs (runEnd cs p0 blanks)).length < sizeLine := by
            unfold runAt
            rw [cut_length (le_runEnd _ _ _) hle2]
            omega
          refine ⟨_, rfl, _, rfl, hlr, fun H1 s1 => ⟨_, rfl, ?_⟩⟩
          cases hw : isWord (runAt cs (runEnd cs p0 blanks)) with
          | true =>
            refine iteT ?_
            refine ⟨_, rfl, _, rfl, z3, fun t ht => ?_⟩
            refine q _ t (s1.trans (same_upd ht)) (s1.free ht) ?_
            rw [upd_same, lexAt_wrd hc h1 h2 hw, s_wrd]
            rfl
          | false =>
            refine iteF ?_
            refine ⟨_, rfl, z3, fun t ht => ?_⟩
            refine q _ t (s1.trans (same_upd ht)) (s1.free ht) ?_
            rw [upd_same, lexAt_bad hc h1 h2 hw, s_bad, s_nil]
            rfl
end
end K10
set_option maxHeartbeats 4000000
namespace K10
open PySem PySem.Spec PyProof.Rows L2
open SX (S S_len S_inj S_cat)
abbrev sLI : Stmt := inClass (tp 15) 0
abbrev sIsNext : Stmt := inClass (tp 15) 1
abbrev sGo : Stmt := inClass (tp 15) 2
abbrev sNeed : Stmt := inClass (tp 15) 3
abbrev sTake : Stmt := inClass (tp 15) 4
abbrev sFinish : Stmt := inClass (tp 15) 7
/-- all that was tracked but a is as it was -/
def Kp (a : Addr) (H H' : Hp) : Prop := ∀ b o, H b = some o → b ≠ a → H' b = some o
theorem Kp.refl (a : Addr) (H : Hp) : Kp a H H := fun _ _ e _ => e
theorem Kp.trans {a : Addr} {H H1 H2 : Hp} (x : Kp a H H1) (y : Kp a H1 H2) : Kp a H H2 := fun b o e n => y b o (x b o e n) n
theorem Kp.of {a : Addr} {H H' : Hp} (x : Same H H') : Kp a H H' := fun b o e _ => x b o e
theorem Kp.upd {a : Addr} {H : Hp} {o : HO} : Kp a H (upd H a o) := fun b u e n => by rw [upd_ne n]; exact e
theorem Kp.same {a : Addr} {H H' : Hp} (x : Kp a H H') (h : H a = none) : Same H H' := fun b o e => x b o e (ne_of_none e h)
/-- the lexer's fields -/
def lf (cs : Cs) (t : Addr) : List (Str × V) := putF "now" (.ref t) (putF "text" (.str (S cs)) [])
theorem n_tn : ¬ (("text" : Str) = "now") := by decide +kernel
theorem lf_text (cs : Cs) (t : Addr) : (lf cs t).lookup ("text" : Str) = some (.str (S cs)) := by
  unfold lf
  rw [lookup_putF, if_neg n_tn, lookup_putF, if_pos rfl]
theorem lf_now (cs : Cs) (t : Addr) : (lf cs t).lookup ("now" : Str) = some (.ref t) := by
  unfold lf
  rw [lookup_putF, if_pos rfl]
theorem lf_no (cs : Cs) (t : Addr) {m : Str} (h1 : ¬ m = "now") (h2 : ¬ m = "text") : (lf cs t).lookup m = none := by
  unfold lf
  rw [lookup_putF, if_neg h1, lookup_putF, if_neg h2] <;> rfl
theorem lf_eq (cs : Cs) (t : Addr) : lf cs t = ([("text", .str (S cs)), ("now", .ref t)] : List (Str × V)) := by
  show (if ("text" : Str) = "now" then [(("text" : Str), V.ref t)] else (("text" : Str), V.str (S cs)) :: putF "now" (V.ref t) []) = ([("text", V.str (S cs)), ("now", V.ref t)] : List (Str × V))
  rw [if_neg n_tn] <;> rfl
theorem lf_put (cs : Cs) (t u : Addr) : putF "now" (.ref u) (lf cs t) = lf cs u := by
  rw [lf_eq, lf_eq]
  show (if ("text" : Str) = "now" then _ else (("text" : Str), V.str (S cs)) :: (if ("now" : Str) = "now" then [(("now" : Str), V.ref u)] else _)) = ([("text", V.str (S cs)), ("now", V.ref u)] : List (Str × V))
  rw [if_neg n_tn, if_pos rfl]
/-- a lexer at a, over the text cs, at the lexeme L -/
def LxAt (CL : Addr) (H : Hp) (a : Addr) (cs : Cs) (L : Lx) : Prop := ∃ dx t, H a = some (.ins CL dx (lf cs t)) ∧ H t = some (.tup (lxV L))
theorem LxAt.kp {CL : Addr} {H H' : Hp} {a b : Addr} {cs : Cs} {L : Lx} (x : LxAt CL H a cs L) (k : Kp b H H') (n : a ≠ b) (nt : ∀ t xs, H t = some (.tup xs) → t ≠ b) : LxAt CL H' a cs L := by
  obtain ⟨dx, t, h1, h2⟩ := x
  exact ⟨dx, t, k _ _ h1 n, k _ _ h2 (nt _ _ h2)⟩
theorem LxAt.same {CL : Addr} {H H' : Hp} {a : Addr} {cs : Cs} {L : Lx} (x : LxAt CL H a cs L) (k : Same H H') : LxAt CL H' a cs L := by
  obtain ⟨dx, t, h1, h2⟩ := x
  exact ⟨dx, t, k _ _ h1, k _ _ h2⟩
/-- the error told at place p, made while all but a was kept -/
def ErrAt (H H' : Hp) (a d : Addr) (p : Nat) : Prop := H' d = some (.xd [("place", .int p)]) ∧ Kp a H H' ∧ H d = none
/-- what the lexer's class and the error's class are -/
structure LT (w : World) (K : PySem.W.Frag) (mg : Str → Option Value) (CL CT : Addr) : Prop where
  cl : Cls K CL
  nt : NoAttr K CL "text"
  nn : NoAttr K CL "now"
  mgL : mg "Lexer" = some (.ref CL)
  mgT : mg "BadText" = some (.ref CT)
  x : ∃ fI cda cc, K10E.XT PP K mg sTextI "BadText.__init__" "place" "place" CT fI cda cc
section
variable {w : World} {K : PySem.W.Frag} {mg : Str → Option Value} {base : Heap} {CL CT : Addr}
def spLI (CL : Addr) : Sp := fun vs H Q _ => ∃ (p dx : Addr) (cs : Cs), vs = [.ref p, .str (S cs)] ∧ H p = some (.ins CL dx []) ∧ cs.length < sizeLine ∧ ∀ H', LxAt CL H' p cs (lexAt cs 0) → Kp p H H' → Q .non H'
theorem scLI : FnScope ["self", "text"] ["self", "text"] (defScope sLI) := ⟨rfl, rfl, rfl, by decide +kernel, rfl, by decide +kernel, by decide +kernel⟩
theorem ok_LI {f fX : Addr} {fd fdX : FuncData} (F : Fun K "__init__" "Lexer.__init__" sLI f fd) (T : LT w K mg CL CT) (N : Fn K mg "lexeme_at" sLexAt fX fdX ["text", "place"]) (G : FnOk PP w K mg base CX0 2 fX fdX ["text", "place"] spLexAt) :
    FnOk PP w K mg base CX0 3 f fd ["self", "text"] (spLI CL) := by
  refine F.ok scLI (fun vs H Q E h => ?_) (fun cdv A outer s H vs Q E hr h => ?_)
  · obtain ⟨p, dx, cs, rfl, _⟩ := h
    rfl
  · obtain ⟨p, dx, cs, rfl, hp, hz, q⟩ := h
    refine ⟨_, pss_cons (ps_fld (pv 0) (pv 1) rfl) (pss_one (ps_fld (pv 0) (pe_call G hr (by rfl) N.g N.F.kp N.b .nil pass0 (pa_cons (pv 1) (pa_cons pe_int pa_nil))) rfl)), ?_⟩
    refine ⟨_, rfl, _, rfl, p, CL, dx, [], rfl, hp, T.cl, T.nt, (by show 0 < 1000; decide), ?_⟩
    refine ⟨_, rfl, cs, 0, rfl, Nat.zero_le _, hz, fun H' t s1 ht h' => ?_⟩
    have hp' : H' p = some (.ins CL dx (putF "text" (.str (S cs)) [])) := s1 _ _ upd_same
    refine ⟨_, rfl, p, CL, dx, _, rfl, hp', T.cl, T.nn, (by show 1 < 1000; decide), ?_⟩
    have ntp : t ≠ p := fun z => by rw [z, upd_same] at ht; cases ht
    exact q _ ⟨dx, t, upd_same, by rw [upd_ne ntp]; exact h'⟩ fun b o e nb => by rw [upd_ne nb]; exact s1 _ _ (by rw [upd_ne nb]; exact e)
def spIsNext (CL : Addr) : Sp := fun vs H Q _ => ∃ (a : Addr) (cs wd : Cs) (L : Lx), vs = [.ref a, .str (S wd)] ∧ LxAt CL H a cs L ∧ Q (.bl (decide (L.s = wd))) H
theorem scIsNext : FnScope ["self", "lexeme"] ["self", "lexeme"] (defScope sIsNext) := ⟨rfl, rfl, rfl, by decide +kernel, rfl, by decide +kernel, by decide +kernel⟩
theorem ok_isNext {f : Addr} {fd : FuncData} (F : Fun K "is_next" "Lexer.is_next" sIsNext f fd) (T : LT w K mg CL CT) : FnOk PP w K mg base CX0 1 f fd ["self", "lexeme"] (spIsNext CL) := by
  refine F.ok scIsNext (fun vs H Q E h => ?_) (fun cdv A outer s H vs Q E hr h => ?_)
  · obtain ⟨p, cs, wd, L, rfl, _⟩ := h
    rfl
  · obtain ⟨p, cs, wd, L, rfl, ⟨dx, t, hp, ht⟩, q⟩ := h
    refine ⟨_, pss_one (ps_ret (pe_cmpR op_eq (pe_ix ix_tup (pe_fld (pv 0) rfl) pe_int (fun _ _ => rfl)) (pv 1) (nomark _))), ?_⟩
    refine ⟨_, rfl, p, CL, dx, _, _, rfl, hp, T.cl, T.nn, lf_now _ _, t, _, 1, _, rfl, rfl, SqT.of ht, atI_nat (j := 1) rfl, _, rfl, rfl, ?_⟩
    show Q (V.bl (decide (V.str (S L.s) = V.str (S wd)))) H
    rw [dec_S]
    exact q
def spGo (CL : Addr) : Sp := fun vs H Q _ => ∃ (a : Addr) (cs : Cs) (L : Lx), vs = [.ref a] ∧ LxAt CL H a cs L ∧ LxOk cs L ∧ cs.length < sizeLine ∧ ∀ H', LxAt CL H' a cs (nextL cs L) → Kp a H H' → Q (.str (S L.s)) H'
theorem scGo : FnScope ["self", "lexeme"] ["self"] (defScope sGo) := ⟨rfl, rfl, rfl, by decide +kernel, rfl, by decide +kernel, by decide +kernel⟩
theorem ok_go {f fX : Addr} {fd fdX : FuncData} (F : Fun K "go" "Lexer.go" sGo f fd) (T : LT w K mg CL CT) (TG : GT K mg) (N : Fn K mg "lexeme_at" sLexAt fX fdX ["text", "place"]) (G : FnOk PP w K mg base CX0 2 fX fdX ["text", "place"] spLexAt) :
    FnOk PP w K mg base CX0 3 f fd ["self"] (spGo CL) := by
  refine F.ok scGo (fun vs H Q E h => ?_) (fun cdv A outer s H vs Q E hr h => ?_)
  · obtain ⟨p, cs, L, rfl, _⟩ := h
    rfl
  · obtain ⟨p, cs, L, rfl, ⟨dx, t, hp, ht⟩, hL, hz, q⟩ := h
    refine ⟨_, pss_cons (ps_set (i := 1) scGo.nd rfl (Or.inl rfl) (pe_ix ix_tup (pe_fld (pv 0) rfl) pe_int (fun _ _ => rfl)))
      (pss_cons (ps_fld (pv 0) (pe_call G hr (by rfl) N.g N.F.kp N.b .nil pass0 (pa_cons (pe_fld (pv 0) rfl) (pa_cons (pe_op op_add (pe_ix ix_tup (pe_fld (pv 0) rfl) pe_int (fun _ _ => rfl)) (pe_callB call_len_str (by rfl) TG.len PySem.boot_len (pa_cons (pv 1) pa_nil))) pa_nil))) rfl)
      (pss_one (ps_ret (pv 1)))), ?_⟩
    have hle := hL.le
    have z0 : sizeLine = 16777216 := sizeLine_eq
    refine ⟨_, rfl, p, CL, dx, _, _, rfl, hp, T.cl, T.nn, lf_now _ _, t, _, 1, _, rfl, rfl, SqT.of ht, atI_nat (j := 1) rfl, ?_⟩
    refine ⟨_, rfl, p, CL, dx, _, _, rfl, hp, T.cl, T.nt, lf_text _ _, _, rfl, p, CL, dx, _, _, rfl, hp, T.cl, T.nn, lf_now _ _, t, _, 2, _, rfl, rfl, SqT.of ht, atI_nat (j := 2) rfl, _, rfl, S L.s, rfl, by rw [S_len]; omega, _, _, rfl, rfl, ?_⟩
    refine ⟨cs, L.p + L.s.length, by rw [S_len]; rfl, hle, hz, fun H' u s1 hu h' => ?_⟩
    have hp' := s1 _ _ hp
    refine ⟨_, rfl, p, CL, dx, _, rfl, hp', T.cl, T.nn, (by rw [lf_eq]; show 2 < 1000; decide), _, rfl, ?_⟩
    have nup : u ≠ p := fun z => by rw [z, hp] at hu; cases hu
    rw [lf_put]
    exact q _ ⟨dx, u, upd_same, by rw [upd_ne nup]; exact h'⟩ fun b o e nb => by rw [upd_ne nb]; exact s1 _ _ e
/-- need(self, b) -/
def spNeed (CL CT : Addr) : Sp := fun vs H Q E => ∃ (a : Addr) (cs : Cs) (L : Lx) (b : Bool), vs = [.ref a, .bl b] ∧ LxAt CL H a cs L ∧ (b = true → Q .non H) ∧ (b = false → ∀ H' d, ErrAt H H' a d L.p → E (.ref CT) (some d) H')
theorem scNeed : FnScope ["self", "is_right"] ["self", "is_right"] (defScope sNeed) := ⟨rfl, rfl, rfl, by decide +kernel, rfl, by decide +kernel, by decide +kernel⟩
theorem ok_need {f : Addr} {fd : FuncData} (F : Fun K "need" "Lexer.need" sNeed f fd) (T : LT w K mg CL CT) : FnOk PP w K mg base (L2.CX PP w) 1 f fd ["self", "is_right"] (spNeed CL CT) := by
  obtain ⟨fI, cda, cc, XT⟩ := T.x
  refine F.okX scNeed (fun vs H Q E h => ?_) (fun cdv A outer s H vs Q E hr h => ?_)
  · obtain ⟨p, cs, L, b, rfl, _⟩ := h
    rfl
  · obtain ⟨p, cs, L, b, rfl, ⟨dx, t, hp, ht⟩, q1, q2⟩ := h
    refine ⟨_, pss_one (ps_if (pt_not (pt_val (pv 1))) (pss_one (ps_raise rfl (takes_of rfl rfl rfl rfl)
      (pmk_x (ok := okAny) (cond := fun _ _ => True) XT (ir_text XT) (fun _ _ _ _ _ => trivial) (fun _ _ _ _ _ _ _ _ _ => trivial) hr T.mgT (by exact (pa_cons (pe_ix ix_tup (pe_fld (pv 0) rfl) pe_int (fun _ _ => rfl)) pa_nil)) rfl))) pss_nil), ?_⟩
    refine ⟨_, rfl, b, rfl, ?_⟩
    cases b with
    | true => exact if_false_of rfl (q1 rfl)
    | false =>
      refine if_true_of rfl ?_
      refine ⟨_, rfl, p, CL, dx, _, _, rfl, hp, T.cl, T.nn, lf_now _ _, t, _, 2, _, rfl, rfl, SqT.of ht, atI_nat (j := 2) rfl, _, rfl, trivial, fun d hd => ?_⟩
      exact q2 rfl _ d ⟨upd_same, Kp.of (same_upd hd), hd⟩
/-- behind an error that a callee let out nothing else has come -/
theorem ErrAt.mono {H H1 H' : Hp} {a d : Addr} {p : Nat} (k : Kp a H H1) (ha : ∃ o, H a = some o) (ha1 : ∃ o, H1 a = some o) (e : ErrAt H1 H' a d p) : ErrAt H H' a d p := by
  obtain ⟨e1, e2, e3⟩ := e
  refine ⟨e1, k.trans e2, ?_⟩
  cases h : H d with
  | none => rfl
  | some o =>
    by_cases hd : d = a
    · obtain ⟨o1, h1⟩ := ha1
      rw [hd, h1] at e3
      cases e3
    · rw [k _ _ h hd] at e3
      cases e3
theorem LxAt.there {CL : Addr} {H : Hp} {a : Addr} {cs : Cs} {L : Lx} (x : LxAt CL H a cs L) : ∃ o, H a = some o := by
  obtain ⟨_, _, h, _⟩ := x
  exact ⟨_, h⟩
def spTake (CL CT : Addr) : Sp := fun vs H Q E => ∃ (a : Addr) (cs wd : Cs) (L : Lx), vs = [.ref a, .str (S wd)] ∧ LxAt CL H a cs L ∧ LxOk cs L ∧ cs.length < sizeLine ∧
  (L.s = wd → ∀ H', LxAt CL H' a cs (nextL cs L) → Kp a H H' → Q .non H') ∧ (L.s ≠ wd → ∀ H' d, ErrAt H H' a d L.p → E (.ref CT) (some d) H')
theorem scTake : FnScope ["self", "lexeme"] ["self", "lexeme"] (defScope sTake) := ⟨rfl, rfl, rfl, by decide +kernel, rfl, by decide +kernel, by decide +kernel⟩
/-- the lexer's methods -/
structure LM (w : World) (K : PySem.W.Frag) (mg : Str → Option Value) (base : Heap) (CL CT : Addr) : Prop where
  T : LT w K mg CL CT
  TG : GT K mg
  isN : ∃ f fd, Meth K CL "is_next" f ∧ Binds K fd ["self", "lexeme"] [] ∧ FnOk PP w K mg base CX0 1 f fd ["self", "lexeme"] (spIsNext CL)
  go : ∃ f fd, Meth K CL "go" f ∧ Binds K fd ["self"] [] ∧ FnOk PP w K mg base CX0 3 f fd ["self"] (spGo CL)
  need : ∃ f fd, Meth K CL "need" f ∧ Binds K fd ["self", "is_right"] [] ∧ FnOk PP w K mg base (L2.CX PP w) 1 f fd ["self", "is_right"] (spNeed CL CT)
theorem ok_take {f : Addr} {fd : FuncData} (F : Fun K "take" "Lexer.take" sTake f fd) (M : LM w K mg base CL CT) : FnOk PP w K mg base (L2.CX PP w) 4 f fd ["self", "lexeme"] (spTake CL CT) := by
  obtain ⟨f1, fd1, m1, b1, G1⟩ := M.isN
  obtain ⟨f2, fd2, m2, b2, G2⟩ := M.go
  obtain ⟨f3, fd3, m3, b3, G3⟩ := M.need
  have T := M.T
  refine F.okX scTake (fun vs H Q E h => ?_) (fun cdv A outer s H vs Q E hr h => ?_)
  · obtain ⟨p, cs, wd, L, rfl, _⟩ := h
    rfl
  · obtain ⟨p, cs, wd, L, rfl, hx, hL, hz, q1, q2⟩ := h
    refine ⟨_, pss_cons (ps_expr (pe_meth (pv 0) T.cl m3 G3 (hr.mono (by decide)) b3 .nil (passes_call (E := E) (W := fun cls d _ H => E cls d H) (takes_of rfl rfl rfl rfl) fun _ _ _ _ h => h)
        (by exact (pa_cons (pe_meth (pv 0) T.cl m1 G1 (hr.mono (by decide)) b1 .nil pass0 (by exact (pa_cons (pv 1) pa_nil))) pa_nil))))
      (pss_one (ps_expr (pe_meth0 (pv 0) T.cl m2 G2 hr b2 .nil pass0))), ?_⟩
    obtain ⟨dx, t, hp, ht⟩ := id hx
    refine ⟨_, rfl, p, dx, _, rfl, hp, lf_no _ _ (by decide +kernel) (by decide +kernel), ?_⟩
    refine ⟨_, rfl, p, dx, _, rfl, hp, lf_no _ _ (by decide +kernel) (by decide +kernel), _, rfl, p, cs, wd, L, rfl, hx, ?_⟩
    refine ⟨p, cs, L, _, rfl, hx, fun e => ?_, fun e H' d h => q2 (of_decide_eq_false e) H' d h⟩
    refine ⟨_, rfl, p, dx, _, rfl, hp, lf_no _ _ (by decide +kernel) (by decide +kernel), p, cs, L, rfl, hx, hL, hz, fun H' h' k => ?_⟩
    exact q1 (of_decide_eq_true e) H' h' k
def spFinish (CL CT : Addr) : Sp := fun vs H Q E => ∃ (a : Addr) (cs : Cs) (L : Lx), vs = [.ref a] ∧ LxAt CL H a cs L ∧ (L.k = .fin → Q .non H) ∧ (L.k ≠ .fin → ∀ H' d, ErrAt H H' a d L.p → E (.ref CT) (some d) H')
theorem scFinish : FnScope ["self"] ["self"] (defScope sFinish) := ⟨rfl, rfl, rfl, by decide +kernel, rfl, by decide +kernel, by decide +kernel⟩
theorem kname_fin (k : Kd) : decide (kname k = kname .fin) = decide (k = .fin) := by cases k <;> decide
theorem ok_finish {f : Addr} {fd : FuncData} (F : Fun K "finish" "Lexer.finish" sFinish f fd) (M : LM w K mg base CL CT) : FnOk PP w K mg base (L2.CX PP w) 4 f fd ["self"] (spFinish CL CT) := by
  obtain ⟨f3, fd3, m3, b3, G3⟩ := M.need
  have T := M.T
  refine F.okX scFinish (fun vs H Q E h => ?_) (fun cdv A outer s H vs Q E hr h => ?_)
  · obtain ⟨p, cs, L, rfl, _⟩ := h
    rfl
  · obtain ⟨p, cs, L, rfl, hx, q1, q2⟩ := h
    refine ⟨_, pss_one (ps_expr (pe_meth (pv 0) T.cl m3 G3 (hr.mono (by decide)) b3 .nil (passes_call (E := E) (W := fun cls d _ H => E cls d H) (takes_of rfl rfl rfl rfl) fun _ _ _ _ h => h)
        (by exact (pa_cons (pe_cmpR op_eq (pe_ix ix_tup (pe_fld (pv 0) rfl) pe_int (fun _ _ => rfl)) pe_str (nomark _)) pa_nil)))), ?_⟩
    obtain ⟨dx, t, hp, ht⟩ := id hx
    refine ⟨_, rfl, p, dx, _, rfl, hp, lf_no _ _ (by decide +kernel) (by decide +kernel), ?_⟩
    refine ⟨_, rfl, p, CL, dx, _, _, rfl, hp, T.cl, T.nn, lf_now _ _, t, _, 0, _, rfl, rfl, SqT.of ht, atI_nat (j := 0) rfl, rfl, ?_⟩
    rw [s_fin]
    refine ⟨p, cs, L, _, rfl, hx, fun e => ?_, fun e H' d h => ?_⟩
    · rw [dec_S, kname_fin] at e
      exact q1 (of_decide_eq_true e)
    · rw [dec_S, kname_fin] at e
      exact q2 (of_decide_eq_false e) H' d h
end
end K10
set_option maxHeartbeats 4000000
namespace K10
theorem takeShape_ok {cs : Cs} : ∀ {n : Nat} {L : Lx} {t : Sh} {L' : Lx}, LxOk cs L → takeShape cs n L = some (.ok (t, L')) → LxOk cs L' ∧ L.p < L'.p ∨ False
  | 0, _, _, _, _, h => by unfold takeShape at h; cases h
  | n + 1, L, t, L', hL, h => by
    unfold takeShape at h
    by_cases h1 : L.s = [40]
    · rw [if_pos h1] at h
      have a1 : L.p < (nextL cs L).p := by
        have := next_ge (cs := cs) L
        rw [h1] at this
        exact this
      cases e1 : takeShape cs n (nextL cs L) with
      | none => rw [e1] at h; cases h
      | some r1 =>
        cases r1 with
        | error p => rw [e1] at h; cases h
        | ok x1 =>
          obtain ⟨l, L1⟩ := x1
          rw [e1] at h
          have i1 := (takeShape_ok (next_ok hL) e1).resolve_right id
          cases e2 : takeShape cs n L1 with
          | none => simp only [e2] at h; cases h
          | some r2 =>
            cases r2 with
            | error p => simp only [e2] at h; cases h
            | ok x2 =>
              obtain ⟨r, L2⟩ := x2
              simp only [e2] at h
              have i2 := (takeShape_ok i1.1 e2).resolve_right id
              by_cases h2 : L2.s = [41]
              · rw [if_pos h2] at h
                cases h
                have a2 := next_ge (cs := cs) L2
                exact .inl ⟨next_ok i2.1, by omega⟩
              · rw [if_neg h2] at h
                cases h
    · rw [if_neg h1] at h
      by_cases h2 : L.s = [111]
      · rw [if_pos h2] at h
        cases h
        have := next_ge (cs := cs) L
        rw [h2] at this
        exact .inl ⟨next_ok hL, this⟩
      · rw [if_neg h2] at h
        cases h
theorem takeShape_lx {cs : Cs} {n : Nat} {L : Lx} {t : Sh} {L' : Lx} (hL : LxOk cs L) (h : takeShape cs n L = some (.ok (t, L'))) : LxOk cs L' := ((takeShape_ok hL h).resolve_right id).1
theorem takeShape_lt {cs : Cs} {n : Nat} {L : Lx} {t : Sh} {L' : Lx} (hL : LxOk cs L) (h : takeShape cs n L = some (.ok (t, L'))) : L.p < L'.p := ((takeShape_ok hL h).resolve_right id).2
end K10
namespace K10
open PySem PySem.Spec PyProof.Rows L2
open SX (S S_len S_inj S_cat)
abbrev sShape : Stmt := tp 28
abbrev sTable : Stmt := tp 29
abbrev sEnd : Stmt := tp 30
inductive ShV (H : Hp) : V → Sh → Prop where
  | leaf {p : Addr} (h : H p = some (.tup [])) : ShV H (.ref p) .leaf
  | node {p : Addr} {v w : V} {l r : Sh} (h : H p = some (.tup [v, w])) (hl : ShV H v l) (hr : ShV H w r) : ShV H (.ref p) (.node l r)
/-- at a stands no tuple -/
def NoTup (H : Hp) (a : Addr) : Prop := ∀ xs, H a ≠ some (.tup xs)
theorem NoTup.ne {H : Hp} {a p : Addr} {xs : List V} (n : NoTup H a) (h : H p = some (.tup xs)) : p ≠ a := fun z => n xs (by rw [← z]; exact h)
theorem ShV.kp {H H' : Hp} {a : Addr} (k : Kp a H H') (na : NoTup H a) {v : V} {t : Sh} (x : ShV H v t) : ShV H' v t := by
  induction x with
  | leaf h => exact .leaf (k _ _ h (na.ne h))
  | node h _ _ i1 i2 => exact .node (k _ _ h (na.ne h)) i1 i2
theorem ShV.same {H H' : Hp} (k : Same H H') {v : V} {t : Sh} (x : ShV H v t) : ShV H' v t := by
  induction x with
  | leaf h => exact .leaf (k _ _ h)
  | node h _ _ i1 i2 => exact .node (k _ _ h) i1 i2
theorem LxAt.noTup {CL : Addr} {H : Hp} {a : Addr} {cs : Cs} {L : Lx} (x : LxAt CL H a cs L) : NoTup H a := by
  obtain ⟨_, _, h, _⟩ := x
  intro xs z
  rw [h] at z
  cases z
theorem LxAt.upd {CL : Addr} {H : Hp} {a b : Addr} {cs : Cs} {L : Lx} {o : HO} (x : LxAt CL H a cs L) (hb : H b = none) : LxAt CL (upd H b o) a cs L := x.same (same_upd hb)
section
variable {w : World} {K : PySem.W.Frag} {mg : Str → Option Value} {base : Heap} {CL CT : Addr}
theorem s_op : ("(" : Str) = S [40] := by decide +kernel
theorem s_cl : (")" : Str) = S [41] := by decide +kernel
theorem s_o : ("o" : Str) = S [111] := by decide +kernel
def spShape (CL CT : Addr) (n : Nat) : Sp := fun vs H Q E => ∃ (a : Addr) (cs : Cs) (L : Lx) (r : Except Nat (Sh × Lx)), vs = [.ref a] ∧ LxAt CL H a cs L ∧ LxOk cs L ∧ cs.length < sizeLine ∧ takeShape cs n L = some r ∧
  (∀ t L', r = .ok (t, L') → ∀ H' v, LxAt CL H' a cs L' → Kp a H H' → ShV H' v t → Q v H') ∧ (∀ p, r = .error p → ∀ H' d, ErrAt H H' a d p → E (.ref CT) (some d) H')
theorem scShape : FnScope ["lexer", "left", "right"] ["lexer"] (defScope sShape) := ⟨rfl, rfl, rfl, by decide +kernel, rfl, by decide +kernel, by decide +kernel⟩
/-- .. and take, finish -/
structure LM2 (w : World) (K : PySem.W.Frag) (mg : Str → Option Value) (base : Heap) (CL CT : Addr) : Prop where
  M : LM w K mg base CL CT
  take : ∃ f fd, Meth K CL "take" f ∧ Binds K fd ["self", "lexeme"] [] ∧ FnOk PP w K mg base (L2.CX PP w) 4 f fd ["self", "lexeme"] (spTake CL CT)
  finish : ∃ f fd, Meth K CL "finish" f ∧ Binds K fd ["self"] [] ∧ FnOk PP w K mg base (L2.CX PP w) 4 f fd ["self"] (spFinish CL CT)
theorem ok_shape {f : Addr} {fd : FuncData} (N : Fn K mg "take_shape" sShape f fd ["lexer"]) (M2 : LM2 w K mg base CL CT) : ∀ n, FnOk PP w K mg base (L2.CX PP w) (n + 4) f fd ["lexer"] (spShape CL CT n)
  | 0 => by
    refine ⟨fun vs H Q E h => ?_, fun A outer s H args us vs Q E hr e0 hb r h => ?_⟩
    · obtain ⟨_, _, _, _, rfl, _⟩ := h
      rfl
    · obtain ⟨_, _, _, _, _, _, _, _, h, _⟩ := h
      unfold takeShape at h
      cases h
  | n + 1 => by
    have GS := ok_shape N M2 n
    obtain ⟨f1, fd1, m1, b1, G1⟩ := M2.M.isN
    obtain ⟨f2, fd2, m2, b2, G2⟩ := M2.M.go
    obtain ⟨f3, fd3, m3, b3, G3⟩ := M2.take
    have T := M2.M.T
    refine N.F.okX scShape (fun vs H Q E h => ?_) (fun cdv A outer s H vs Q E hr h => ?_)
    · obtain ⟨p, cs, L, r, rfl, _⟩ := h
      rfl
    · obtain ⟨a, cs, L, r, rfl, hx, hL, hz, hr0, q1, q2⟩ := h
      have px : ∀ {X : Cx}, Takes X (fun cls d _ H => E cls d H) → Passes (L2.CX X.prog X.w) X E := fun tk => passes_call (E := E) (W := fun cls d _ H => E cls d H) tk fun _ _ _ _ h => h
      refine ⟨_, pss_cons (ps_if (pt_not (pt_val (pe_meth (pv 0) T.cl m1 G1 (hr.mono (by omega)) b1 .nil pass0 (by exact (pa_cons pe_str pa_nil)))))
          (pss_cons (ps_expr (pe_meth (pv 0) T.cl m3 G3 (hr.mono (by omega)) b3 .nil (px (takes_of rfl rfl rfl rfl)) (by exact (pa_cons pe_str pa_nil)))) (pss_one (ps_ret (pe_tup pa_nil)))) pss_nil)
        (pss_cons (ps_expr (pe_meth0 (pv 0) T.cl m2 G2 (hr.mono (by omega)) b2 .nil pass0))
        (pss_cons (ps_set (i := 1) scShape.nd rfl (Or.inl rfl) (pe_call GS hr (by rfl) N.g N.F.kp N.b .nil (px (takes_of rfl rfl rfl rfl)) (by exact (pa_cons (pv 0) pa_nil))))
        (pss_cons (ps_set (i := 2) scShape.nd rfl (Or.inl rfl) (pe_call GS hr (by rfl) N.g N.F.kp N.b .nil (px (takes_of rfl rfl rfl rfl)) (by exact (pa_cons (pv 0) pa_nil))))
        (pss_cons (ps_expr (pe_meth (pv 0) T.cl m3 G3 (hr.mono (by omega)) b3 .nil (px (takes_of rfl rfl rfl rfl)) (by exact (pa_cons pe_str pa_nil))))
        (pss_one (ps_ret (pe_tup (pa_cons (pv 1) (pa_cons (pv 2) pa_nil))))))))), ?_⟩
      obtain ⟨dx, t, hp, ht⟩ := id hx
      refine ⟨_, rfl, a, dx, _, rfl, hp, lf_no _ _ (by decide +kernel) (by decide +kernel), a, cs, [40], L, by rw [s_op]; rfl, hx, _, rfl, ?_⟩
      unfold takeShape at hr0
      by_cases h1 : L.s = [40]
      · rw [if_pos h1] at hr0
        refine if_false_of (by rw [decide_eq_true h1]; rfl) ?_
        refine ⟨_, rfl, a, dx, _, rfl, hp, lf_no _ _ (by decide +kernel) (by decide +kernel), a, cs, L, rfl, hx, hL, hz, fun H1 x1 k1 => ?_⟩
        cases e1 : takeShape cs n (nextL cs L) with
        | none => rw [e1] at hr0; cases hr0
        | some r1 =>
          rw [e1] at hr0
          refine ⟨_, rfl, a, cs, _, r1, rfl, x1, next_ok hL, hz, e1, fun tl L1 er H2 v x2 k2 sv => ?_, fun p er H' d he => ?_⟩
          · subst er
            have l1 := takeShape_lx (next_ok hL) e1
            simp only at hr0
            cases e2 : takeShape cs n L1 with
            | none => rw [e2] at hr0; cases hr0
            | some r2 =>
              rw [e2] at hr0
              refine ⟨_, rfl, a, cs, _, r2, rfl, x2, l1, hz, e2, fun tr L2 er H3 v2 x3 k3 sv2 => ?_, fun p er H' d he => ?_⟩
              · subst er
                have l2 := takeShape_lx l1 e2
                simp only at hr0
                obtain ⟨dx3, t3, hp3, _⟩ := id x3
                refine ⟨_, rfl, a, dx3, _, rfl, hp3, lf_no _ _ (by decide +kernel) (by decide +kernel), a, cs, [41], L2, by rw [s_cl]; rfl, x3, l2, hz, fun e H4 x4 k4 => ?_, fun e H' d he => ?_⟩
                · rw [if_pos e] at hr0
                  cases hr0
                  refine ⟨_, rfl, _, rfl, by show 2 ≤ sizeLine; decide, fun u hu => ?_⟩
                  refine q1 _ _ rfl _ _ (x4.upd hu) ((((k1.trans k2).trans k3).trans k4).trans (Kp.of (same_upd hu))) (.node upd_same ?_ ?_)
                  · exact ((sv.kp k3 x2.noTup).kp k4 x3.noTup).same (same_upd hu)
                  · exact (sv2.kp k4 x3.noTup).same (same_upd hu)
                · rw [if_neg e] at hr0
                  cases hr0
                  exact q2 _ rfl _ _ (he.mono ((k1.trans k2).trans k3) hx.there x3.there)
              · subst er
                cases hr0
                exact q2 _ rfl _ _ (he.mono (k1.trans k2) hx.there x2.there)
          · subst er
            cases hr0
            exact q2 _ rfl _ _ (he.mono k1 hx.there x1.there)
      · rw [if_neg h1] at hr0
        refine if_true_of (by rw [decide_eq_false h1]; rfl) ?_
        refine ⟨_, rfl, a, dx, _, rfl, hp, lf_no _ _ (by decide +kernel) (by decide +kernel), a, cs, [111], L, by rw [s_o]; rfl, hx, hL, hz, fun e H1 x1 k1 => ?_, fun e H' d he => ?_⟩
        · rw [if_pos e] at hr0
          cases hr0
          refine ⟨by show 0 ≤ sizeLine; omega, fun u hu => ?_⟩
          exact q1 _ _ rfl _ _ (x1.upd hu) (k1.trans (Kp.of (same_upd hu))) (.leaf upd_same)
        · rw [if_neg e] at hr0
          cases hr0
          exact q2 _ rfl _ _ he
end
end K10
set_option maxHeartbeats 4000000
namespace K10
open PySem PySem.Spec PyProof.Rows L2
section
variable {X : Cx}
def rNilL (K : PySem.W.Frag) (neg : Bool) : R2 := fun x y H Q => ∃ a b xs, x = .ref a ∧ y = .ref b ∧ SqL K H a xs ∧ SqL K H b [] ∧ Q (.bl (if neg then !xs.isEmpty else xs.isEmpty)) H
theorem vals_nil {us : List Value} (r : Vals [] us) : us = [] := by cases r; rfl
theorem op_eq_nilL (hu : X.A.units < cLine) : OpR X (compareOp .Eq) (rNilL X.K false) := by
  intro pins s σ H x y v u Q I rx ry h
  obtain ⟨a, b, xs, rfl, rfl, ha, hb, q⟩ := h
  obtain rfl : v = Value.ref a := rx
  obtain rfl : u = Value.ref b := ry
  obtain ⟨its, r1, p1, _⟩ := I.list ha
  obtain ⟨its2, r2, p2, _⟩ := I.list hb
  have e2 := vals_nil r2
  subst e2
  cases r1 with
  | nil => exact SeqAt.eq_listAt (e := fun _ => true) p1.isList p2.isList rfl hu (fun j h1 _ => absurd h1 (by simp)) ⟨.bl _, H, I, rfl, q⟩
  | cons _ _ => exact SeqAt.eq_list_lengthsAt p1.isList p2.isList (by simp) hu ⟨.bl _, H, I, rfl, q⟩
theorem op_ne_nilL (hu : X.A.units < cLine) : OpR X (compareOp .NotEq) (rNilL X.K true) := by
  intro pins s σ H x y v u Q I rx ry h
  obtain ⟨a, b, xs, rfl, rfl, ha, hb, q⟩ := h
  obtain rfl : v = Value.ref a := rx
  obtain rfl : u = Value.ref b := ry
  obtain ⟨its, r1, p1, _⟩ := I.list ha
  obtain ⟨its2, r2, p2, _⟩ := I.list hb
  have e2 := vals_nil r2
  subst e2
  cases r1 with
  | nil => exact SeqAt.RcNeAt.lists (e := fun _ => true) p1.isList p2.isList rfl hu (fun j h1 _ => absurd h1 (by simp)) _ _ _ _ ⟨.bl _, H, I, rfl, q⟩
  | cons _ _ => exact SeqAt.RcNeAt.lists_lengths p1.isList p2.isList (by simp) hu _ _ _ _ ⟨.bl _, H, I, rfl, q⟩
def rNilT (K : PySem.W.Frag) : R2 := fun x y H Q => ∃ a b xs, x = .ref a ∧ y = .ref b ∧ SqT K H a xs ∧ SqT K H b [] ∧ Q (.bl xs.isEmpty) H
theorem op_eq_nilT (hu : X.A.units < cLine) : OpR X (compareOp .Eq) (rNilT X.K) := by
  intro pins s σ H x y v u Q I rx ry h
  obtain ⟨a, b, xs, rfl, rfl, ha, hb, q⟩ := h
  obtain rfl : v = Value.ref a := rx
  obtain rfl : u = Value.ref b := ry
  obtain ⟨its, r1, p1, _⟩ := I.tuple ha
  obtain ⟨its2, r2, p2, _⟩ := I.tuple hb
  have e2 := vals_nil r2
  subst e2
  refine SeqAt.eq_tupleAt (e := fun _ => true) (show s.heap.IsTuple a its.toArray from p1) (show s.heap.IsTuple b [].toArray from p2) hu (fun j _ h1 => absurd h1 (by simp)) ?_
  cases r1 with
  | nil => exact ⟨.bl _, H, I, rfl, q⟩
  | cons _ _ => exact ⟨.bl _, H, I, by show Value.bool _ = Value.bool _; simp, q⟩
theorem extend_lt (l : Addr) (items : Array Value) (n : Nat) (b : Addr) (items2 : Array Value) (n2 : Nat) (d2 : Option Addr) (sl2 : Array (Option Value)) (hs0 : ¬(!items.isEmpty && Builtin.List.listTooLong (items.size + items2.size)) = true) (hs1 : items.size ≤ sizeLine) (hs2 : items.size + items2.size ≤ sizeLine + 1) :
    Meets (Builtin.«list.extend» ⟨[.ref l, .ref b], []⟩) (fun _ R s => s.heap.get? l = some { cls := .type "list", dict := none, data := .seq items n, slots := #[] } ∧ s.heap.get? b = some { cls := .type "tuple", dict := d2, data := .seq items2 n2, slots := sl2 } ∧ R (.ok (.ret Value.none)) { s with heap := s.heap.update l (Obj.mapSeq fun x => x ++ items2), toks := s.toks }) :=
  .of_wp fun prog w A R s h => by
    obtain ⟨hp, g, d, tk, os⟩ := s
    obtain ⟨hl, hb, h⟩ := h
    have f1 := AutoSeq1.idx_int
    have f2 := AutoSeq1.sub_tuple_tuple
    have f3 := AutoSeq1.sub_list_list
    have f4 := AutoSeq1.sub_tuple_list
    have f5 := AutoSeq1.sub_list_tuple
    have hz' : (items ++ items2).size ≤ sizeLine + 1 := by rw [Array.size_append]; exact hs2
    wp_walk using (wpAny_updateSeq hl rfl (hz := hs1) (_hz' := hz')), wpAny_loadPart' hl, wpAny_loadPart' hb
    exact ⟨_, rfl, h⟩
def rExtendT (K : PySem.W.Frag) : V → List V → Hp → VK → Prop := fun x vs H Q => ∃ l b xs zs, x = .ref l ∧ vs = [.ref b] ∧ H l = some (.lst xs) ∧ SqT K H b zs ∧ xs.length + zs.length ≤ sizeLine ∧ Q .non (upd H l (.lst (xs ++ zs)))
theorem mt_extendT {X : Cx} : MtM X "list.extend" (rExtendT X.K) := by
  intro pins s σ H x vs v us Q I rx rv h
  obtain ⟨l, b, xs, zs, rfl, rfl, hH, hB, hz, q⟩ := h
  cases rx
  obtain ⟨u, rfl, ru⟩ := rv.one
  cases ru
  obtain ⟨z, its, n, r, hl, e⟩ := I.lstM hH
  obtain ⟨its2, r2, ⟨⟨c2, d2, dt2, sl2⟩, e2, hc2, n2, hd2⟩, z2⟩ := I.tuple hB
  simp only at hc2 hd2
  subst hc2 hd2
  have hl2 := r2.length
  have hsz : its.toArray.size + its2.toArray.size ≤ sizeLine := by rw [List.size_toArray, List.size_toArray]; omega
  have hlong : ¬ (!its.toArray.isEmpty && Builtin.List.listTooLong (its.toArray.size + its2.toArray.size)) = true := by
    rw [notLongL hsz, Bool.and_false]
    exact Bool.false_ne_true
  refine call_meets F.slot_list_extend ⟨_, e, rfl⟩ F.entry_list_extend (F.args_list_extend_2 _ _)
    (extend_lt l its.toArray n b its2.toArray n2 d2 sl2 hlong (by rw [List.size_toArray]; omega) (by omega)) ⟨e, e2, ?_⟩
  refine ⟨.non, _, I.lset (its' := its ++ its2) hH e (by simp) (r.append r2) ?_, rfl, q⟩
  rw [List.length_append]
  omega
theorem enum_new_tup (l : Addr) (items : Array Value) (n : Nat) (dct : Option Addr) (sl : Array (Option Value)) :
    Meets (Builtin.«enumerate.__new__» ⟨[.type "enumerate", .ref l], []⟩) (fun _ R s => s.heap.get? l = some { cls := .type "tuple", dict := dct, data := .seq items n, slots := sl } ∧
      R (.ok (.ret (.ref (s.heap.push { cls := .type "tuple_iterator", data := .fields #[.ref l, .int 0 0] }).objs.size)))
        { s with heap := (s.heap.push { cls := .type "tuple_iterator", data := .fields #[.ref l, .int 0 0] }).push { cls := .type "enumerate", data := .fields #[.none, .bool false, .ref s.heap.objs.size, rawInt 0, .none, .none] } }) :=
  .of_wp fun prog w A R s h => by
    obtain ⟨hp, g, d, tk, os⟩ := s
    obtain ⟨hl, h⟩ := h
    have hsub := sub_enumerate
    have hL : Heap.IsTuple (Shared.heap ⟨hp, g, d, tk, os⟩) l items := ⟨_, hl, rfl, n, rfl⟩
    wp_walk using AutoSeq1.wpAny_loadPart' hl
    refine wpAny_stack_any fun st => wpAny_pure ?_
    split
    · rename_i c _ _ _ _ _
      cases (c == Value.type "enumerate")
      · wp_walk using AutoSeq1.wpAny_loadPart' hl, wpAny_pyIter_tuple hL
        exact ⟨_, rfl, h⟩
      · wp_walk using AutoSeq1.wpAny_loadPart' hl, wpAny_pyIter_tuple hL
        exact ⟨_, rfl, h⟩
    · wp_walk using AutoSeq1.wpAny_loadPart' hl, wpAny_pyIter_tuple hL
      exact ⟨_, rfl, h⟩
theorem enum_tup {prog : Program} {w : World} {A : Around} {E : Value → Shared → Prop} {s : Shared} {l : Addr} {items : Array Value} {Q : Value → Shared → Prop} (hL : s.heap.IsTuple l items)
    (h : ∀ h', IsEnum h' (s.heap.objs.size + 1) s.heap.objs.size 0 .none → h'.IsTupleIter s.heap.objs.size l 0 → (∀ b o, s.heap.get? b = some o → h'.get? b = some o) → Q (.ref (s.heap.objs.size + 1)) { s with heap := h' }) :
    wpAny (model prog w) A (call (.type "enumerate") [.ref l]) Q E s := by
  obtain ⟨⟨c, dct, dt, sl⟩, hl, hc, n, hd⟩ := hL
  simp only at hc hd
  subst hc hd
  refine callType_new F.called_enumerate (by decide) (F.typeCall_enumerate_1 _) (F.newCall_enumerate_1 _) (fun obj => F.args_object_init_2 obj _) F.entry_enumerate_new (enum_new_tup l items n dct sl) ⟨hl, ?_⟩
  have hz : (s.heap.push { cls := .type "tuple_iterator", data := .fields #[.ref l, .int 0 0] }).objs.size = s.heap.objs.size + 1 := Heap.size_push ..
  show _ ∧ _
  rw [hz]
  have he : IsEnum ((s.heap.push { cls := .type "tuple_iterator", data := .fields #[.ref l, .int 0 0] }).push { cls := .type "enumerate", data := .fields #[.none, .bool false, .ref s.heap.objs.size, rawInt 0, .none, .none] }) (s.heap.objs.size + 1) s.heap.objs.size 0 .none := by
    have z := Heap.get?_push_size (s.heap.push { cls := .type "tuple_iterator", data := .fields #[.ref l, .int 0 0] }) (o := { cls := .type "enumerate", data := .fields #[.none, .bool false, .ref s.heap.objs.size, rawInt 0, .none, .none] }) rfl
    rw [hz] at z
    exact z
  exact ⟨⟨_, he, rfl⟩, h _ he ⟨_, Heap.get?_push_of_some _ (Heap.get?_push_size _ rfl), rfl, rfl⟩ fun b o x => Heap.get?_push_of_some _ (Heap.get?_push_of_some _ x)⟩
/-- the tuple at a as it stands at each turn, each item in a new pair -/
def IteT (K : PySem.W.Frag) (a : Addr) : It :=
  ⟨fun i H => ∃ (xs : List V) (x : V), SqT K H a xs ∧ xs[i]? = some x, fun i H v H' => ∃ T x, v = .ref T ∧ H T = none ∧ H' = upd H T (.tup [.int (i : Nat), x]) ∧ ∀ xs, SqT K H a xs → xs[i]? = some x, fun i H => ∃ xs : List V, SqT K H a xs ∧ xs.length = i⟩
theorem walk_enumT {K : PySem.W.Frag} {a : Addr} {xs : List V} : Walk (IteT K a) xs.length (fun H => SqT K H a xs) (YPair (fun i => some (.int (i : Nat))) (fun i => xs[i]?)) := by
  refine ⟨fun i _ hi q => ⟨xs, xs[i], q, by simp [hi]⟩, fun _ q => ⟨xs, q, rfl⟩, fun i H v H' _ q y => ?_⟩
  obtain ⟨T, x, h1, h2, h3, h4⟩ := y
  exact ⟨T, .int (i : Nat), x, h1, h2, h3, rfl, h4 xs q⟩
theorem enum_ne_tup {h : Heap} {e it a : Addr} {i : Int} {old : Value} {items : Array Value} (he : IsEnum h e it i old) (ht : h.IsTuple a items) : e ≠ a := fun z => by
  obtain ⟨o, ho, hc, _⟩ := ht
  have he' : h.get? e = some _ := he
  rw [z, ho] at he'
  have q := Option.some.inj he'
  rw [q] at hc
  exact absurd (show Value.type "enumerate" = Value.type "tuple" from hc) (by decide)
theorem turn_enumT {P : Program} {w : World} {K : PySem.W.Frag} {elts : List Expr} {kk : Nat} {tpos : Pos} (a e it : Addr) :
    Turn P w K (.Tuple elts kk tpos) (IteT K a) [e, it] e (fun i h => (∃ old, IsEnum h e it ((i : Nat) : Int) old) ∧ h.IsTupleIter it a i ∧ e ≠ it) where
  mem := by simp
  obj := fun i h st b hb => by
    obtain ⟨⟨old, he⟩, ⟨o, ho, hc, hd⟩, _⟩ := st
    rcases (show b = e ∨ b = it by simpa using hb) with z | z
    · rw [z]; exact ⟨_, he, fun v q => nomatch q⟩
    · rw [z]; exact ⟨o, ho, fun v q => by rw [hd] at q; cases q⟩
  keep := fun i h h' st k => by
    obtain ⟨⟨old, he⟩, hi, hne⟩ := st
    exact ⟨⟨old, k e (by simp) _ he⟩, hi.at fun o q => k it (by simp) o q, hne⟩
  item := by
    intro X hP hw hK hc i pins s σ H E I hf st hg
    subst hP hw hK
    obtain ⟨⟨old, he⟩, hit, hne⟩ := st
    obtain ⟨xs, x, hq, hx⟩ := hg
    obtain ⟨its, rv, p, hz⟩ := I.tuple hq
    obtain ⟨u, hu, ru⟩ := rv.get hx
    have pt : s.heap.IsTuple a its.toArray := p
    have hel : e < s.heap.objs.size := Heap.lt_size he
    have hil : it < s.heap.objs.size := by obtain ⟨_, q, _⟩ := hit; exact Heap.lt_size q
    have hai : a ≠ it := fun z => by
      obtain ⟨o1, q1, c1, _⟩ := hit
      obtain ⟨o2, q2, c2, _⟩ := pt
      rw [z, q1] at q2
      cases q2
      rw [c1] at c2
      exact absurd c2 (by decide)
    have hin : i < its.length := (List.getElem?_eq_some_iff.mp hu).1
    have D := Draws.tuple (prog := X.prog) (w := X.w) (A := X.A.in1) (I.ok.hd hc) it a hai its.toArray
    refine wpAny_pyNext_enum_itemD D he ⟨hit, pt⟩ (by simpa using hin) hne (by simp [hne, enum_ne_tup he pt]) fun x2 h' tk hP ho hst' hT hsz hk => ?_
    have ex : x2 = u := by
      have : its[i]? = some x2 := by simpa using hP
      rw [hu] at this
      exact (Option.some.inj this).symm
    subst ex
    obtain ⟨hit', _⟩ := hst'
    refine ⟨_, rfl, wpAny_letOwnedTupleGo_enum (s := { s with heap := h', toks := tk + 1 }) ho fun h'' he' sb => ?_⟩
    have hT2 : h''.get? s.heap.objs.size = some { cls := .type "tuple", data := .seq #[.int i tk, x2] } := (sb.2 _ (Nat.ne_of_gt hel)).trans hT
    have new : ObjOk X.prog X.w (upd H s.heap.objs.size (.tup [.int (i : Nat), x])) h'' s.heap.objs.size (.tup [.int (i : Nat), x]) :=
      ⟨by show 2 ≤ sizeLine; decide, [.int i tk, x2], .cons ⟨_, rfl⟩ (.cons ru .nil), ⟨_, hT2, rfl, _, rfl⟩⟩
    have I1 : Inv X pins σ (upd H s.heap.objs.size (.tup [.int (i : Nat), x])) { s with heap := h'', toks := tk + 1 } :=
      I.turnedNew (ch := [e, it]) (fun b ob hb q => (sb.2 b (fun z => hb (by simp [z]))).trans (hk b ob (fun z => hb (by simp [z])) (fun z => hb (by simp [z])) q)) hf (Nat.le_refl _) new
    refine ⟨.ref s.heap.objs.size, _, I1, rfl, ⟨_, x, rfl, I.hok.fresh (Nat.le_refl _), rfl, fun ys hy => by rw [I.tuple_inj hy hq]; exact hx⟩, ⟨⟨x2, ?_⟩, hit'.at fun o q => (sb.2 it (Ne.symm hne)).trans q, hne⟩, fun b hb => ?_⟩
    · have e1 : ((i + 1 : Nat) : Int) = (i : Int) + 1 := by omega
      rw [e1]; exact he'
    · have hb' : b < s.heap.objs.size := by
        rcases (show b = e ∨ b = it by simpa using hb) with z | z
        · rw [z]; exact hel
        · rw [z]; exact hil
      rw [upd_ne (Nat.ne_of_lt hb')]
      exact (hf b hb).1
  done := by
    intro X hP hw hK hc i pins s σ H E I hf st hg
    subst hP hw hK
    obtain ⟨⟨old, he⟩, hit, hne⟩ := st
    obtain ⟨xs, hq, hx⟩ := hg
    obtain ⟨its, rv, p, hz⟩ := I.tuple hq
    have pt : s.heap.IsTuple a its.toArray := p
    obtain ⟨f0, f1, f2, f3, f4, f5⟩ := hf it (by simp)
    have hl := rv.length
    have hai : a ≠ it := fun z => by
      obtain ⟨o1, q1, c1, _⟩ := hit
      obtain ⟨o2, q2, c2, _⟩ := pt
      rw [z, q1] at q2
      cases q2
      rw [c1] at c2
      exact absurd c2 (by decide)
    have D := Draws.tuple (prog := X.prog) (w := X.w) (A := X.A.in1) (I.ok.hd hc) it a hai its.toArray
    have ei : its.toArray.size = i := by rw [List.size_toArray, ← hl]; exact hx
    exact wpAny_pyNext_enum_endD D he (by rw [ei]; exact ⟨hit, pt⟩) fun h' eb => ⟨rfl, I.turned (t' := s.toks) (fun b o hb q => eb b o hb q) f0 f1 f3 f4 f5⟩
  self := fun A i s Q E st h => by
    obtain ⟨⟨_, he⟩, _⟩ := st
    exact wpAny_pyIter_enum he h
def iEnumT (K : PySem.W.Frag) (ta : TA) : TI := fun σ H R => ta σ H fun vs H1 => ∃ a xs, vs = [.ref a] ∧ SqT K H1 a xs ∧ R (IteT K a) H1
theorem pi_enumT {X : Cx} {e : Expr} {ta : TA} {p pos tpos : Pos} {elts : List Expr} {kk : Nat} (hg : Gl X "enumerate") (hm : X.mg "enumerate" = none) (ha : PA X [e] ta) (hs : starEach [e] X.env = [(false, eval e X.env)] := by rfl) :
    PI X (.Tuple elts kk tpos) (.Call (.Name "enumerate" p) [e] [] pos) (iEnumT X.K ta) := by
  refine ⟨fun pins s σ H R I h => ?_⟩
  refine Call_ (ld_blt I hg hm boot_enumerate (PyProof.Rows.callWith_type1 (thn (ha.run pos pins s σ H _ I h) fun us s1 ⟨vs, H1, I1, r1, q1⟩ => ?_) hs rfl))
  obtain ⟨a, xs, ex, hq, q⟩ := q1
  subst ex
  obtain ⟨u, rfl, ru⟩ := vals1 r1
  obtain rfl : u = Value.ref a := ru
  obtain ⟨its, rv, p', hz⟩ := I1.tuple hq
  refine enum_tup (show s1.heap.IsTuple a its.toArray from p') fun h' he hit hk => wpAny_pyIter_enum he ?_
  have I2 : Inv X pins σ H1 { s1 with heap := h' } := I1.kept (t' := s1.toks) hk
  refine ⟨s1.heap.objs.size + 1, [s1.heap.objs.size + 1, s1.heap.objs.size], _, _, H1, rfl, I2, turn_enumT a (s1.heap.objs.size + 1) s1.heap.objs.size, ⟨⟨.none, he⟩, hit, Nat.succ_ne_self _⟩, fun b hb => ?_, q⟩
  have hle : s1.heap.objs.size ≤ b := by
    rcases (show b = s1.heap.objs.size + 1 ∨ b = s1.heap.objs.size by simpa using hb) with z | z
    · rw [z]; exact Nat.le_add_right _ _
    · rw [z]; exact Nat.le_refl _
  exact I1.fpOk hle (I1.hok.fresh hle)
end
end K10
set_option maxHeartbeats 4000000
namespace K10
open PySem PySem.Spec PyProof.Rows L2
open SX (S S_len S_inj S_cat)
theorem s_table : ("table" : Str) = S wTable := by decide +kernel
theorem s_plan : ("plan" : Str) = S wPlan := by decide +kernel
theorem s_round : ("round" : Str) = S wRound := by decide +kernel
theorem s_left : ("left" : Str) = S wLeft := by decide +kernel
theorem s_right : ("right" : Str) = S wRight := by decide +kernel
theorem s_lb : ("{" : Str) = S [123] := by decide +kernel
theorem s_rb : ("}" : Str) = S [125] := by decide +kernel
theorem s_semi : (";" : Str) = S [59] := by decide +kernel
inductive ShVs (H : Hp) : List V → List Sh → Prop where
  | nil : ShVs H [] []
  | cons {v : V} {vs : List V} {t : Sh} {ts : List Sh} (h : ShV H v t) (r : ShVs H vs ts) : ShVs H (v :: vs) (t :: ts)
theorem ShVs.kp {H H' : Hp} {a : Addr} (k : Kp a H H') (na : NoTup H a) {vs : List V} {ts : List Sh} (x : ShVs H vs ts) : ShVs H' vs ts := by
  induction x with
  | nil => exact .nil
  | cons h _ i => exact .cons (h.kp k na) i
theorem ShVs.same {H H' : Hp} (k : Same H H') {vs : List V} {ts : List Sh} (x : ShVs H vs ts) : ShVs H' vs ts := by
  induction x with
  | nil => exact .nil
  | cons h _ i => exact .cons (h.same k) i
theorem ShVs.snoc {H : Hp} {v : V} {t : Sh} (h : ShV H v t) {vs : List V} {ts : List Sh} (x : ShVs H vs ts) : ShVs H (vs ++ [v]) (ts ++ [t]) := by
  induction x with
  | nil => exact .cons h .nil
  | cons h' _ i => exact .cons h' i
theorem ShVs.len {H : Hp} {vs : List V} {ts : List Sh} (x : ShVs H vs ts) : vs.length = ts.length := by
  induction x with
  | nil => rfl
  | cons _ _ i => exact congrArg Nat.succ i
/-- a table that may have shapes of any sizes -/
def TabV (H : Hp) (v : V) (ts : List Sh) : Prop := ∃ p vs, v = .ref p ∧ H p = some (.tup vs) ∧ ShVs H vs ts
theorem TabV.kp {H H' : Hp} {a : Addr} (k : Kp a H H') (na : NoTup H a) {v : V} {ts : List Sh} (x : TabV H v ts) : TabV H' v ts := by
  obtain ⟨p, vs, e, h, r⟩ := x
  exact ⟨p, vs, e, k _ _ h (na.ne h), r.kp k na⟩
theorem TabV.same {H H' : Hp} (k : Same H H') {v : V} {ts : List Sh} (x : TabV H v ts) : TabV H' v ts := by
  obtain ⟨p, vs, e, h, r⟩ := x
  exact ⟨p, vs, e, k _ _ h, r.same k⟩
/-- all that was tracked but a and l is as it was -/
def Kp2 (a l : Addr) (H H' : Hp) : Prop := ∀ b o, H b = some o → b ≠ a → b ≠ l → H' b = some o
theorem Kp2.trans {a l : Addr} {H H1 H2 : Hp} (x : Kp2 a l H H1) (y : Kp2 a l H1 H2) : Kp2 a l H H2 := fun b o e n n' => y b o (x b o e n n') n n'
theorem Kp2.of {a l : Addr} {H H' : Hp} (x : Same H H') : Kp2 a l H H' := fun b o e _ _ => x b o e
theorem Kp.two {a l : Addr} {H H' : Hp} (x : Kp a H H') : Kp2 a l H H' := fun b o e n _ => x b o e n
theorem Kp.two' {a l : Addr} {H H' : Hp} (x : Kp l H H') : Kp2 a l H H' := fun b o e _ n => x b o e n
theorem Kp2.one {a l : Addr} {H H' : Hp} (x : Kp2 a l H H') (h : ∀ b o, H b = some o → b ≠ a → b ≠ l) : Kp a H H' := fun b o e n => x b o e n (h b o e n)
theorem Kp2.fresh {a l : Addr} {H H' : Hp} (x : Kp2 a l H H') (hl : H l = none) : Kp a H H' := fun b o e n => x b o e n (ne_of_none e hl)
theorem test_of {c : TT} {σ : L2.St} {H : Hp} {Q : Bool → Hp → Prop} (b : Bool) (S : Hp → Prop) (h1 : ∀ Q' : Bool → Hp → Prop, (∀ H4, S H4 → Q' b H4) → c σ H Q') (h2 : ∀ H4, S H4 → Q b H4) : c σ H Q := h1 Q h2
/-- a change of the list at l alone -/
theorem same_of_kp {H H1 H2 : Hp} {l : Addr} (k : Kp l H1 H2) (h : ∀ b o, H b = some o → b ≠ l) (s : Same H H1) : Same H H2 := fun b o e => k b o (s b o e) (h b o e)
theorem noTup_lst {H : Hp} {l : Addr} {xs : List V} (h : H l = some (.lst xs)) : NoTup H l := fun ys z => by rw [h] at z; cases z
theorem takeEntries_len {cs : Cs} {D : Nat} : ∀ {m : Nat} {L : Lx} {acc : List Sh} {r : Except Nat (List Sh × Lx)}, LxOk cs L → takeEntries cs D m L acc = some r → ∀ {ts : List Sh} {L' : Lx}, r = .ok (ts, L') → LxOk cs L' ∧ L.p < L'.p
  | 0, _, _, _, _, h, _, _, _ => by unfold takeEntries at h; cases h
  | m + 1, L, acc, r, hL, h, ts, L', e => by
    unfold takeEntries at h
    subst e
    split at h
    · next hc =>
      cases h
      have := next_ge (cs := cs) L
      rw [hc.2] at this
      exact ⟨next_ok hL, this⟩
    · split at h
      · cases h
      · cases h
      · next t L1 e1 =>
        split at h
        · next h1 =>
          have i1 := takeShape_lx hL e1
          have l1 := takeShape_lt hL e1
          have i2 := takeEntries_len (next_ok i1) h rfl
          have := next_ge (cs := cs) L1
          exact ⟨i2.1, by omega⟩
        · cases h
theorem tk_ok {α : Type} {cs : Cs} {wd : Cs} {L : Lx} {f : Lx → Res α} {a : α} (h : tk cs wd L f = some (.ok a)) : L.s = wd ∧ f (nextL cs L) = some (.ok a) := by
  unfold tk at h
  split at h
  · next e => exact ⟨e, h⟩
  · cases h
theorem tk_yes {α : Type} {cs : Cs} {wd : Cs} {L : Lx} {f : Lx → Res α} (e : L.s = wd) : tk cs wd L f = f (nextL cs L) := if_pos e
theorem tk_no {α : Type} {cs : Cs} {wd : Cs} {L : Lx} {f : Lx → Res α} (e : L.s ≠ wd) : tk cs wd L f = some (.error L.p) := if_neg e
theorem takeTable_lx {cs : Cs} {D n : Nat} {L : Lx} {ts : List Sh} {L' : Lx} (hL : LxOk cs L) (h : takeTable cs D n L = some (.ok (ts, L'))) : LxOk cs L' ∧ L.p < L'.p := by
  obtain ⟨e1, h1⟩ := tk_ok h
  obtain ⟨e2, h2⟩ := tk_ok h1
  have i := takeEntries_len (next_ok (next_ok hL)) h2 rfl
  have a1 := next_ge (cs := cs) L
  have a2 := next_ge (cs := cs) (nextL cs L)
  exact ⟨i.1, by omega⟩
section
variable {w : World} {K : PySem.W.Frag} {mg : Str → Option Value} {base : Heap} {CL CT : Addr}
/-- the promise of a def that reads by the lexer: r what is read -/
def spRead {α : Type} (CL CT : Addr) (f : Cs → Lx → Res (α × Lx)) (R : Hp → V → α → Prop) : Sp := fun vs H Q E => ∃ (a : Addr) (cs : Cs) (L : Lx) (r : Except Nat (α × Lx)), vs = [.ref a] ∧ LxAt CL H a cs L ∧ LxOk cs L ∧ cs.length < sizeLine ∧ f cs L = some r ∧
  (∀ t L', r = .ok (t, L') → ∀ H' v, LxAt CL H' a cs L' → Kp a H H' → R H' v t → Q v H') ∧ (∀ p, r = .error p → ∀ H' d, ErrAt H H' a d p → E (.ref CT) (some d) H')
theorem scTable : FnScope ["lexer", "found"] ["lexer"] (defScope sTable) := ⟨rfl, rfl, rfl, by decide +kernel, rfl, by decide +kernel, by decide +kernel⟩
theorem ok_table {f fS : Addr} {fd fdS : FuncData} {D n : Nat} (N : Fn K mg "take_table" sTable f fd ["lexer"]) (M2 : LM2 w K mg base CL CT) (NS : Fn K mg "take_shape" sShape fS fdS ["lexer"]) :
    FnOk PP w K mg base (L2.CX PP w) (D + 5) f fd ["lexer"] (spRead CL CT (fun cs L => takeTable cs D (cs.length + 1) L) TabV) := by
  have GS := ok_shape NS M2 D
  obtain ⟨f1, fd1, m1, b1, G1⟩ := M2.M.isN
  obtain ⟨f3, fd3, m3, b3, G3⟩ := M2.take
  have T := M2.M.T
  have TG := M2.M.TG
  refine N.F.okX scTable (fun vs H Q E h => ?_) (fun cdv A outer s H vs Q E hr h => ?_)
  · obtain ⟨p, cs, L, r, rfl, _⟩ := h
    rfl
  · obtain ⟨a, cs, L, r, rfl, hx, hL, hz, hr0, q1, q2⟩ := h
    have px : ∀ {X : Cx}, Takes X (fun cls d _ H => E cls d H) → Passes (L2.CX X.prog X.w) X E := fun tk => passes_call (E := E) (W := fun cls d _ H => E cls d H) tk fun _ _ _ _ h => h
    refine ⟨_, pss_cons (ps_expr (pe_meth (pv 0) T.cl m3 G3 (hr.mono (by omega)) b3 .nil (px (takes_of rfl rfl rfl rfl)) (by exact (pa_cons pe_str pa_nil))))
      (pss_cons (ps_expr (pe_meth (pv 0) T.cl m3 G3 (hr.mono (by omega)) b3 .nil (px (takes_of rfl rfl rfl rfl)) (by exact (pa_cons pe_str pa_nil))))
      (pss_cons (ps_set (i := 1) scTable.nd rfl (Or.inl rfl) (pe_lst pa_nil))
      (pss_cons (ps_while (passes_of rfl) (PW.pt (pw_or (pt_cmpR (op_eq_nilL hr.units0) (pv 1) (pe_lst pa_nil) (nomark _)) (pw_or1 (pt_not (pt_val (pe_meth (pv 0) T.cl m1 G1 (hr.mono (by omega)) b1 .nil pass0 (by exact (pa_cons pe_str pa_nil))))))))
          (pss_cons (ps_expr (pe_bm PySem.F.plainAttrs_list PySem.F.slot_list_append PySem.F.type_list_append mt_append (pv 1) (by exact (pa_cons (pe_call GS hr (by rfl) NS.g NS.F.kp NS.b .nil (px (takes_of rfl rfl rfl rfl)) (by exact (pa_cons (pv 0) pa_nil))) pa_nil))))
          (pss_one (ps_expr (pe_meth (pv 0) T.cl m3 G3 (hr.mono (by omega)) b3 .nil (px (takes_of rfl rfl rfl rfl)) (by exact (pa_cons pe_str pa_nil)))))))
      (pss_cons (ps_expr (pe_meth (pv 0) T.cl m3 G3 (hr.mono (by omega)) b3 .nil (px (takes_of rfl rfl rfl rfl)) (by exact (pa_cons pe_str pa_nil))))
      (pss_one (ps_ret (pe_callTy call_tuple_of (by rfl) TG.tup (by decide +kernel) (by exact (pa_cons (pv 1) pa_nil))))))))), ?_⟩
    have z0 : sizeLine = 16777216 := sizeLine_eq
    obtain ⟨dx, t, hp, ht⟩ := id hx
    have hr0 : tk cs wTable L (fun L1 => tk cs [123] L1 fun L2 => takeEntries cs D (cs.length + 1) L2 []) = some r := hr0
    refine ⟨_, rfl, a, dx, _, rfl, hp, lf_no _ _ (by decide +kernel) (by decide +kernel), a, cs, wTable, L, by rw [s_table]; rfl, hx, hL, hz, fun e H1 x1 k1 => ?_, fun e H' d he => ?_⟩
    · rw [tk_yes e] at hr0
      have l1 := next_ok hL
      obtain ⟨dx1, t1, hp1, ht1⟩ := id x1
      refine ⟨_, rfl, a, dx1, _, rfl, hp1, lf_no _ _ (by decide +kernel) (by decide +kernel), a, cs, [123], _, by rw [s_lb]; rfl, x1, l1, hz, fun e2 H2 x2 k2 => ?_, fun e2 H' d he => ?_⟩
      · rw [tk_yes e2] at hr0
        have l2 := next_ok l1
        refine ⟨by show 0 ≤ sizeLine; omega, fun l hl => ?_⟩
        have hla : l ≠ a := fun z => by
          obtain ⟨o, ho⟩ := x2.there
          rw [z, ho] at hl
          cases hl
        have hl0 : H l = none := by
          cases z : H l with
          | none => rfl
          | some o =>
            rw [(k1.trans k2) _ _ z hla] at hl
            cases hl
        refine ⟨fun m σ H' => ∃ L' acc vs, σ = [some (.ref a), some (.ref l)] ∧ LxAt CL H' a cs L' ∧ LxOk cs L' ∧ H' l = some (.lst vs) ∧ ShVs H' vs acc ∧ Kp2 a l H H' ∧ acc.length + m ≤ cs.length + 1 ∧ takeEntries cs D m L' acc = some r,
          ⟨_, _, [], [], rfl, x2.upd hl, l2, upd_same, .nil, (((k1.trans k2).trans (Kp.of (same_upd hl))).two), by simp, hr0⟩, ?_⟩
        rintro m σ H3 ⟨L3, acc, vs, rfl, x3, l3, h3, sv, k3, hm, e3⟩
        obtain ⟨m', rfl⟩ : ∃ m', m = m' + 1 := by
          cases m with
          | zero => unfold takeEntries at e3; cases e3
          | succ m' => exact ⟨m', rfl⟩
        have vlen := sv.len
        have vacc : vs.isEmpty = decide (acc = []) := by
          cases sv with
          | nil => rfl
          | cons _ _ => rfl
        refine test_of (vs.isEmpty || !decide (L3.s = [125])) (fun H4 => Same H3 H4) (fun Q' hQ => ?_) fun H4 s4 => ?_
        · refine ⟨_, rfl, by show 0 ≤ sizeLine; omega, fun u hu => ?_⟩
          have s4 := same_upd (o := .lst []) hu
          refine ⟨l, u, vs, rfl, rfl, SqL.of (s4 _ _ h3), SqL.of upd_same, _, rfl, ?_⟩
          show if vs.isEmpty = true then _ else _
          cases hv : vs.isEmpty with
          | true =>
            refine iteT ?_
            have := hQ _ s4
            rw [hv] at this
            exact this
          | false =>
            refine iteF ?_
            have x4 := x3.same s4
            obtain ⟨dx4, t4, hp4, _⟩ := id x4
            refine ⟨_, rfl, a, dx4, _, rfl, hp4, lf_no _ _ (by decide +kernel) (by decide +kernel), a, cs, [125], L3, by rw [s_rb]; rfl, x4, _, rfl, ?_⟩
            have := hQ _ s4
            rw [hv] at this
            exact this
        · have x4 := x3.same s4
          have h4 := s4 _ _ h3
          have sv4 := sv.same s4
          have k4 := k3.trans (Kp2.of s4)
          obtain ⟨dx4, t4, hp4, _⟩ := id x4
          by_cases hc : acc ≠ [] ∧ L3.s = [125]
          · refine if_false_of (by rw [vacc, decide_eq_false hc.1, decide_eq_true hc.2]; rfl) ?_
            unfold takeEntries at e3
            rw [if_pos hc] at e3
            cases e3
            refine ⟨_, rfl, a, dx4, _, rfl, hp4, lf_no _ _ (by decide +kernel) (by decide +kernel), a, cs, [125], L3, by rw [s_rb]; rfl, x4, l3, hz, fun _ H5 x5 k5 => ?_, fun z => absurd hc.2 z⟩
            have h5 := k5 _ _ h4 hla
            refine ⟨_, rfl, l, vs, rfl, .inl ⟨SqL.of h5, fun u hu => ?_⟩⟩
            have s6 := same_upd (o := .tup vs) hu
            have k6 := (k4.trans k5.two).trans (Kp2.of s6)
            refine q1 _ _ rfl _ _ (x5.same s6) (k6.fresh hl0) ⟨u, vs, rfl, upd_same, (sv4.kp k5 x4.noTup).same s6⟩
          · have hb : (vs.isEmpty || !decide (L3.s = [125])) = true := by
              rw [vacc]
              by_cases h : acc = []
              · rw [decide_eq_true h]; rfl
              · rw [decide_eq_false h, decide_eq_false (fun z => hc ⟨h, z⟩)]; rfl
            refine if_true_of hb ?_
            refine ⟨fun σ' H' => ∃ m'', m'' < m' + 1 ∧ ∃ L' acc vs, σ' = [some (.ref a), some (.ref l)] ∧ LxAt CL H' a cs L' ∧ LxOk cs L' ∧ H' l = some (.lst vs) ∧ ShVs H' vs acc ∧ Kp2 a l H H' ∧ acc.length + m'' ≤ cs.length + 1 ∧ takeEntries cs D m'' L' acc = some r, fun _ _ z => z, ?_⟩
            unfold takeEntries at e3
            rw [if_neg hc] at e3
            cases e5 : takeShape cs D L3 with
            | none => rw [e5] at e3; cases e3
            | some r5 =>
              rw [e5] at e3
              refine ⟨_, rfl, Or.inl ⟨rfl, _, Or.inl (Or.inl h4)⟩, _, rfl, a, cs, L3, r5, rfl, x4, l3, hz, e5, fun ts L5 er H5 v x5 k5 sv5 => ?_, fun p er H' d he => ?_⟩
              · subst er
                simp only at e3
                have h5 := k5 _ _ h4 hla
                refine ⟨l, vs, v, rfl, rfl, h5, by omega, ?_⟩
                have l5 := takeShape_lx l3 e5
                have k6 : Kp l H5 (upd H5 l (.lst (vs ++ [v]))) := Kp.upd
                have n5 := noTup_lst h5
                have x6 : LxAt CL (upd H5 l (.lst (vs ++ [v]))) a cs L5 := x5.kp k6 hla.symm fun t xs ht => n5.ne ht
                obtain ⟨dx6, t6, hp6, _⟩ := id x6
                have sv6 : ShVs (upd H5 l (.lst (vs ++ [v]))) (vs ++ [v]) (acc ++ [ts]) := ShVs.snoc (sv5.kp k6 n5) ((sv4.kp k5 x4.noTup).kp k6 n5)
                refine ⟨_, rfl, a, dx6, _, rfl, hp6, lf_no _ _ (by decide +kernel) (by decide +kernel), a, cs, [59], L5, by rw [s_semi]; rfl, x6, l5, hz, fun es H7 x7 k7 => ?_, fun es H' d he => ?_⟩
                · rw [if_pos es] at e3
                  refine ⟨m', Nat.lt_succ_self _, _, acc ++ [ts], vs ++ [v], rfl, x7, next_ok l5, k7 _ _ upd_same hla, sv6.kp k7 x6.noTup, ((k4.trans k5.two).trans k6.two').trans k7.two, by rw [List.length_append]; simp only [List.length_cons, List.length_nil]; omega, e3⟩
                · rw [if_neg es] at e3
                  cases e3
                  exact q2 _ rfl _ _ (he.mono (((k4.trans k5.two).trans k6.two').fresh hl0) hx.there x6.there)
              · subst er
                cases e3
                exact q2 _ rfl _ _ (he.mono (k4.fresh hl0) hx.there x4.there)
      · rw [tk_no e2] at hr0
        cases hr0
        exact q2 _ rfl _ _ (he.mono k1 hx.there x1.there)
    · rw [tk_no e] at hr0
      cases hr0
      exact q2 _ rfl _ _ he
end
end K10
set_option maxHeartbeats 4000000
namespace K10
open PySem PySem.Spec PyProof.Rows L2
open SX (S S_len S_inj S_cat)
inductive TabVs (H : Hp) : List V → List (List Sh) → Prop where
  | nil : TabVs H [] []
  | cons {v : V} {vs : List V} {t : List Sh} {ts : List (List Sh)} (h : TabV H v t) (r : TabVs H vs ts) : TabVs H (v :: vs) (t :: ts)
theorem TabVs.kp {H H' : Hp} {a : Addr} (k : Kp a H H') (na : NoTup H a) {vs : List V} {ts : List (List Sh)} (x : TabVs H vs ts) : TabVs H' vs ts := by
  induction x with
  | nil => exact .nil
  | cons h _ i => exact .cons (h.kp k na) i
theorem TabVs.same {H H' : Hp} (k : Same H H') {vs : List V} {ts : List (List Sh)} (x : TabVs H vs ts) : TabVs H' vs ts := by
  induction x with
  | nil => exact .nil
  | cons h _ i => exact .cons (h.same k) i
theorem TabVs.snoc {H : Hp} {v : V} {t : List Sh} (h : TabV H v t) {vs : List V} {ts : List (List Sh)} (x : TabVs H vs ts) : TabVs H (vs ++ [v]) (ts ++ [t]) := by
  induction x with
  | nil => exact .cons h .nil
  | cons h' _ i => exact .cons h' i
theorem TabVs.len {H : Hp} {vs : List V} {ts : List (List Sh)} (x : TabVs H vs ts) : vs.length = ts.length := by
  induction x with
  | nil => rfl
  | cons _ _ i => exact congrArg Nat.succ i
def EndV (H : Hp) (v : V) : En → Prop
  | .left => v = .str (S wLeft)
  | .right => v = .str (S wRight)
  | .round ts => ∃ p vs, v = .ref p ∧ H p = some (.tup vs) ∧ TabVs H vs ts
theorem takeRound_lx {cs : Cs} {D n : Nat} : ∀ {m : Nat} {L : Lx} {acc : List (List Sh)} {ts : List (List Sh)} {L' : Lx}, LxOk cs L → takeRound cs D n m L acc = some (.ok (ts, L')) → LxOk cs L' ∧ L.p < L'.p
  | 0, _, _, _, _, _, h => by unfold takeRound at h; cases h
  | m + 1, L, acc, ts, L', hL, h => by
    unfold takeRound at h
    split at h
    · next hc =>
      cases h
      have := next_ge (cs := cs) L
      rw [hc.2] at this
      exact ⟨next_ok hL, this⟩
    · split at h
      · cases h
      · cases h
      · next t L1 e1 =>
        have i1 := takeTable_lx hL e1
        have i2 := takeRound_lx i1.1 h
        exact ⟨i2.1, by omega⟩
theorem takeEnd_lx {cs : Cs} {D n : Nat} {L : Lx} {e : En} {L' : Lx} (hL : LxOk cs L) (h : takeEnd cs D n L = some (.ok (e, L'))) : LxOk cs L' := by
  unfold takeEnd at h
  split at h
  · obtain ⟨e1, h1⟩ := tk_ok h
    split at h1
    · cases h1
    · cases h1
    · next ts L2 e2 =>
      cases h1
      exact (takeRound_lx (next_ok (next_ok hL)) e2).1
  · split at h
    · obtain ⟨e1, h1⟩ := tk_ok h
      cases h1
      exact next_ok (next_ok hL)
    · obtain ⟨e1, h1⟩ := tk_ok h
      obtain ⟨e2, h2⟩ := tk_ok h1
      cases h2
      exact next_ok (next_ok hL)
section
variable {w : World} {K : PySem.W.Frag} {mg : Str → Option Value} {base : Heap} {CL CT : Addr}
theorem scEnd : FnScope ["lexer", "found", "end"] ["lexer"] (defScope sEnd) := ⟨rfl, rfl, rfl, by decide +kernel, rfl, by decide +kernel, by decide +kernel⟩
theorem ok_end {f fT : Addr} {fd fdT : FuncData} {D : Nat} (N : Fn K mg "take_end" sEnd f fd ["lexer"]) (M2 : LM2 w K mg base CL CT) (NT : Fn K mg "take_table" sTable fT fdT ["lexer"])
    (GT' : FnOk PP w K mg base (L2.CX PP w) (D + 5) fT fdT ["lexer"] (spRead CL CT (fun cs L => takeTable cs D (cs.length + 1) L) TabV)) :
    FnOk PP w K mg base (L2.CX PP w) (D + 6) f fd ["lexer"] (spRead CL CT (fun cs L => takeEnd cs D (cs.length + 1) L) EndV) := by
  obtain ⟨f1, fd1, m1, b1, G1⟩ := M2.M.isN
  obtain ⟨f2, fd2, m2, b2, G2⟩ := M2.M.go
  obtain ⟨f3, fd3, m3, b3, G3⟩ := M2.take
  have T := M2.M.T
  have TG := M2.M.TG
  refine N.F.okX scEnd (fun vs H Q E h => ?_) (fun cdv A outer s H vs Q E hr h => ?_)
  · obtain ⟨p, cs, L, r, rfl, _⟩ := h
    rfl
  · obtain ⟨a, cs, L, r, rfl, hx, hL, hz, hr0, q1, q2⟩ := h
    have px : ∀ {X : Cx}, Takes X (fun cls d _ H => E cls d H) → Passes (L2.CX X.prog X.w) X E := fun tk => passes_call (E := E) (W := fun cls d _ H => E cls d H) tk fun _ _ _ _ h => h
    refine ⟨_, pss_cons (ps_if (pt_val (pe_meth (pv 0) T.cl m1 G1 (hr.mono (by omega)) b1 .nil pass0 (by exact (pa_cons pe_str pa_nil))))
        (pss_cons (ps_expr (pe_meth0 (pv 0) T.cl m2 G2 (hr.mono (by omega)) b2 .nil pass0))
        (pss_cons (ps_expr (pe_meth (pv 0) T.cl m3 G3 (hr.mono (by omega)) b3 .nil (px (takes_of rfl rfl rfl rfl)) (by exact (pa_cons pe_str pa_nil))))
        (pss_cons (ps_set (i := 1) scEnd.nd rfl (Or.inl rfl) (pe_lst pa_nil))
        (pss_cons (ps_while (passes_of rfl) (PW.pt (pw_or (pt_cmpR (op_eq_nilL hr.units0) (pv 1) (pe_lst pa_nil) (nomark _)) (pw_or1 (pt_not (pt_val (pe_meth (pv 0) T.cl m1 G1 (hr.mono (by omega)) b1 .nil pass0 (by exact (pa_cons pe_str pa_nil))))))))
          (pss_one (ps_expr (pe_bm PySem.F.plainAttrs_list PySem.F.slot_list_append PySem.F.type_list_append mt_append (pv 1) (by exact (pa_cons (pe_call GT' hr (by rfl) NT.g NT.F.kp NT.b .nil (px (takes_of rfl rfl rfl rfl)) (by exact (pa_cons (pv 0) pa_nil))) pa_nil))))))
        (pss_cons (ps_expr (pe_meth (pv 0) T.cl m3 G3 (hr.mono (by omega)) b3 .nil (px (takes_of rfl rfl rfl rfl)) (by exact (pa_cons pe_str pa_nil))))
        (pss_one (ps_ret (pe_callTy call_tuple_of (by rfl) TG.tup (by decide +kernel) (by exact (pa_cons (pv 1) pa_nil)))))))))) pss_nil)
      (pss_cons (ps_set (i := 2) scEnd.nd rfl (Or.inl rfl) (pe_ifExp (pt_val (pe_meth (pv 0) T.cl m1 G1 (hr.mono (by omega)) b1 .nil pass0 (by exact (pa_cons pe_str pa_nil)))) pe_str pe_str))
      (pss_cons (ps_expr (pe_meth (pv 0) T.cl m3 G3 (hr.mono (by omega)) b3 .nil (px (takes_of rfl rfl rfl rfl)) (by exact (pa_cons (pv 2) pa_nil))))
      (pss_cons (ps_expr (pe_meth (pv 0) T.cl m3 G3 (hr.mono (by omega)) b3 .nil (px (takes_of rfl rfl rfl rfl)) (by exact (pa_cons pe_str pa_nil))))
      (pss_one (ps_ret (pv 2)))))), ?_⟩
    have z0 : sizeLine = 16777216 := sizeLine_eq
    obtain ⟨dx, t, hp, ht⟩ := id hx
    have hr0 : takeEnd cs D (cs.length + 1) L = some r := hr0
    unfold takeEnd at hr0
    refine ⟨_, rfl, a, dx, _, rfl, hp, lf_no _ _ (by decide +kernel) (by decide +kernel), a, cs, wRound, L, by rw [s_round]; rfl, hx, _, rfl, ?_⟩
    by_cases e : L.s = wRound
    · rw [if_pos e] at hr0
      refine if_true_of (decide_eq_true e) ?_
      refine ⟨_, rfl, a, dx, _, rfl, hp, lf_no _ _ (by decide +kernel) (by decide +kernel), a, cs, L, rfl, hx, hL, hz, fun H1 x1 k1 => ?_⟩
      have l1 := next_ok hL
      obtain ⟨dx1, t1, hp1, ht1⟩ := id x1
      refine ⟨_, rfl, a, dx1, _, rfl, hp1, lf_no _ _ (by decide +kernel) (by decide +kernel), a, cs, [123], _, by rw [s_lb]; rfl, x1, l1, hz, fun e2 H2 x2 k2 => ?_, fun e2 H' d he => ?_⟩
      · rw [tk_yes e2] at hr0
        have l2 := next_ok l1
        refine ⟨by show 0 ≤ sizeLine; omega, fun l hl => ?_⟩
        have hla : l ≠ a := fun z => by
          obtain ⟨o, ho⟩ := x2.there
          rw [z, ho] at hl
          cases hl
        have hl0 : H l = none := by
          cases z : H l with
          | none => rfl
          | some o =>
            rw [(k1.trans k2) _ _ z hla] at hl
            cases hl
        -- what the round's loop leaves
        have hr1 : ∃ r1, takeRound cs D (cs.length + 1) (cs.length + 1) (nextL cs (nextL cs L)) [] = some r1 ∧ r = (match r1 with | .error p => .error p | .ok (ts, L2) => .ok (.round ts, L2)) := by
          cases e3 : takeRound cs D (cs.length + 1) (cs.length + 1) (nextL cs (nextL cs L)) [] with
          | none => rw [e3] at hr0; cases hr0
          | some r1 =>
            rw [e3] at hr0
            refine ⟨r1, rfl, ?_⟩
            cases r1 with
            | error p => cases hr0; rfl
            | ok x => cases hr0; rfl
        obtain ⟨r1, hr1, er⟩ := hr1
        refine ⟨fun m σ H' => ∃ L' acc vs, σ = [some (.ref a), some (.ref l), none] ∧ LxAt CL H' a cs L' ∧ LxOk cs L' ∧ H' l = some (.lst vs) ∧ TabVs H' vs acc ∧ Kp2 a l H H' ∧ acc.length + m ≤ cs.length + 1 ∧ takeRound cs D (cs.length + 1) m L' acc = some r1,
          ⟨_, _, [], [], rfl, x2.upd hl, l2, upd_same, .nil, (((k1.trans k2).trans (Kp.of (same_upd hl))).two), by simp, hr1⟩, ?_⟩
        rintro m σ H3 ⟨L3, acc, vs, rfl, x3, l3, h3, sv, k3, hm, e3⟩
        obtain ⟨m', rfl⟩ : ∃ m', m = m' + 1 := by
          cases m with
          | zero => unfold takeRound at e3; cases e3
          | succ m' => exact ⟨m', rfl⟩
        have vlen := sv.len
        have vacc : vs.isEmpty = decide (acc = []) := by
          cases sv with
          | nil => rfl
          | cons _ _ => rfl
        refine test_of (vs.isEmpty || !decide (L3.s = [125])) (fun H4 => Same H3 H4) (fun Q' hQ => ?_) fun H4 s4 => ?_
        · refine ⟨_, rfl, by show 0 ≤ sizeLine; omega, fun u hu => ?_⟩
          have s4 := same_upd (o := .lst []) hu
          refine ⟨l, u, vs, rfl, rfl, SqL.of (s4 _ _ h3), SqL.of upd_same, _, rfl, ?_⟩
          show if vs.isEmpty = true then _ else _
          cases hv : vs.isEmpty with
          | true =>
            refine iteT ?_
            have := hQ _ s4
            rw [hv] at this
            exact this
          | false =>
            refine iteF ?_
            have x4 := x3.same s4
            obtain ⟨dx4, t4, hp4, _⟩ := id x4
            refine ⟨_, rfl, a, dx4, _, rfl, hp4, lf_no _ _ (by decide +kernel) (by decide +kernel), a, cs, [125], L3, by rw [s_rb]; rfl, x4, _, rfl, ?_⟩
            have := hQ _ s4
            rw [hv] at this
            exact this
        · have x4 := x3.same s4
          have h4 := s4 _ _ h3
          have sv4 := sv.same s4
          have k4 := k3.trans (Kp2.of s4)
          obtain ⟨dx4, t4, hp4, _⟩ := id x4
          by_cases hc : acc ≠ [] ∧ L3.s = [125]
          · refine if_false_of (by rw [vacc, decide_eq_false hc.1, decide_eq_true hc.2]; rfl) ?_
            unfold takeRound at e3
            rw [if_pos hc] at e3
            cases e3
            refine ⟨_, rfl, a, dx4, _, rfl, hp4, lf_no _ _ (by decide +kernel) (by decide +kernel), a, cs, [125], L3, by rw [s_rb]; rfl, x4, l3, hz, fun _ H5 x5 k5 => ?_, fun z => absurd hc.2 z⟩
            have h5 := k5 _ _ h4 hla
            refine ⟨_, rfl, l, vs, rfl, .inl ⟨SqL.of h5, fun u hu => ?_⟩⟩
            have s6 := same_upd (o := .tup vs) hu
            have k6 := (k4.trans k5.two).trans (Kp2.of s6)
            exact q1 _ _ er _ _ (x5.same s6) (k6.fresh hl0) ⟨u, vs, rfl, upd_same, (sv4.kp k5 x4.noTup).same s6⟩
          · have hb : (vs.isEmpty || !decide (L3.s = [125])) = true := by
              rw [vacc]
              by_cases h : acc = []
              · rw [decide_eq_true h]; rfl
              · rw [decide_eq_false h, decide_eq_false (fun z => hc ⟨h, z⟩)]; rfl
            refine if_true_of hb ?_
            refine ⟨fun σ' H' => ∃ m'', m'' < m' + 1 ∧ ∃ L' acc vs, σ' = [some (.ref a), some (.ref l), none] ∧ LxAt CL H' a cs L' ∧ LxOk cs L' ∧ H' l = some (.lst vs) ∧ TabVs H' vs acc ∧ Kp2 a l H H' ∧ acc.length + m'' ≤ cs.length + 1 ∧ takeRound cs D (cs.length + 1) m'' L' acc = some r1, fun _ _ z => z, ?_⟩
            unfold takeRound at e3
            rw [if_neg hc] at e3
            cases e5 : takeTable cs D (cs.length + 1) L3 with
            | none => rw [e5] at e3; cases e3
            | some r5 =>
              rw [e5] at e3
              refine ⟨_, rfl, Or.inl ⟨rfl, _, Or.inl (Or.inl h4)⟩, _, rfl, a, cs, L3, r5, rfl, x4, l3, hz, e5, fun ts L5 er5 H5 v x5 k5 sv5 => ?_, fun p er5 H' d he => ?_⟩
              · subst er5
                simp only at e3
                have h5 := k5 _ _ h4 hla
                refine ⟨l, vs, v, rfl, rfl, h5, by omega, ?_⟩
                have l5 := (takeTable_lx l3 e5).1
                have k6 : Kp l H5 (upd H5 l (.lst (vs ++ [v]))) := Kp.upd
                have n5 := noTup_lst h5
                have x6 : LxAt CL (upd H5 l (.lst (vs ++ [v]))) a cs L5 := x5.kp k6 hla.symm fun t xs ht => n5.ne ht
                have sv6 : TabVs (upd H5 l (.lst (vs ++ [v]))) (vs ++ [v]) (acc ++ [ts]) := TabVs.snoc (sv5.kp k6 n5) ((sv4.kp k5 x4.noTup).kp k6 n5)
                exact ⟨m', Nat.lt_succ_self _, _, acc ++ [ts], vs ++ [v], rfl, x6, l5, upd_same, sv6, ((k4.trans k5.two).trans k6.two'), by rw [List.length_append]; simp only [List.length_cons, List.length_nil]; omega, e3⟩
              · subst er5
                cases e3
                exact q2 _ er _ _ (he.mono (k4.fresh hl0) hx.there x4.there)
      · rw [tk_no e2] at hr0
        cases hr0
        exact q2 _ rfl _ _ (he.mono k1 hx.there x1.there)
    · rw [if_neg e] at hr0
      refine if_false_of (decide_eq_false e) ?_
      refine ⟨_, rfl, a, dx, _, rfl, hp, lf_no _ _ (by decide +kernel) (by decide +kernel), a, cs, wLeft, L, by rw [s_left]; rfl, hx, _, rfl, ?_⟩
      -- take(end), take(';')
      have rest : ∀ (wd : Cs) (en : En), tk cs wd L (fun L1 => tk cs [59] L1 fun L2 => some (.ok (en, L2))) = some r → (∀ H', EndV H' (.str (S wd)) en) →
          tSeq (tDrop (tMeth CL "take" (spTake CL CT) [] E (tVar 0) (tCons (tVar 2) tNil))) (tSeq (tDrop (tMeth CL "take" (spTake CL CT) [] E (tVar 0) (tCons (tC (.str ";")) tNil))) (tRet (tVar 2))) { nx := fun _ H' => Q .non H', rt := Q } [some (.ref a), none, some (.str (S wd))] H := fun wd en hr1 hen => by
        refine ⟨_, rfl, a, dx, _, rfl, hp, lf_no _ _ (by decide +kernel) (by decide +kernel), _, rfl, a, cs, wd, L, rfl, hx, hL, hz, fun e2 H1 x1 k1 => ?_, fun e2 H' d he => ?_⟩
        · rw [tk_yes e2] at hr1
          have l1 := next_ok hL
          obtain ⟨dx1, t1, hp1, ht1⟩ := id x1
          refine ⟨_, rfl, a, dx1, _, rfl, hp1, lf_no _ _ (by decide +kernel) (by decide +kernel), a, cs, [59], _, by rw [s_semi]; rfl, x1, l1, hz, fun e3 H2 x2 k2 => ?_, fun e3 H' d he => ?_⟩
          · rw [tk_yes e3] at hr1
            cases hr1
            exact ⟨_, rfl, q1 _ _ rfl _ _ x2 (k1.trans k2) (hen _)⟩
          · rw [tk_no e3] at hr1
            cases hr1
            exact q2 _ rfl _ _ (he.mono k1 hx.there x1.there)
        · rw [tk_no e2] at hr1
          cases hr1
          exact q2 _ rfl _ _ he
      by_cases e2 : L.s = wLeft
      · rw [if_pos e2] at hr0
        refine if_true_of (decide_eq_true e2) ?_
        have := rest wLeft .left (by rw [tk_yes e2]; exact hr0) fun _ => rfl
        rw [← s_left] at this
        exact this
      · rw [if_neg e2] at hr0
        refine if_false_of (decide_eq_false e2) ?_
        have := rest wRight .right hr0 fun _ => rfl
        rw [← s_right] at this
        exact this
end
end K10
set_option maxHeartbeats 4000000
namespace K10
/-- how many brackets lie within one another -/
def dp : Sh → Nat
  | .leaf => 0
  | .node l r => 1 + max (dp l) (dp r)
/-- all parts -/
def nn : Sh → Nat
  | .leaf => 1
  | .node l r => 1 + nn l + nn r
def nns (ts : List Sh) : Nat := (ts.map nn).sum
theorem nn_pos : ∀ t : Sh, 1 ≤ nn t
  | .leaf => Nat.le_refl _
  | .node l r => by show 1 ≤ 1 + nn l + nn r; omega
theorem nns_append (a b : List Sh) : nns (a ++ b) = nns a + nns b := by
  unfold nns
  rw [List.map_append, List.sum_append]
theorem nns_len : ∀ ts : List Sh, ts.length ≤ nns ts
  | [] => Nat.le_refl _
  | t :: ts => by
    have h := nns_len ts
    have h1 := nn_pos t
    show ts.length + 1 ≤ nn t + nns ts
    omega
theorem takeShape_sz {cs : Cs} : ∀ {n : Nat} {L : Lx} {t : Sh} {L' : Lx}, LxOk cs L → takeShape cs n L = some (.ok (t, L')) → dp t < n ∧ L.p + nn t ≤ L'.p
  | 0, _, _, _, _, h => by unfold takeShape at h; cases h
  | n + 1, L, t, L', hL, h => by
    unfold takeShape at h
    by_cases h1 : L.s = [40]
    · rw [if_pos h1] at h
      have a1 : L.p < (nextL cs L).p := by
        have := next_ge (cs := cs) L
        rw [h1] at this
        exact this
      cases e1 : takeShape cs n (nextL cs L) with
      | none => rw [e1] at h; cases h
      | some r1 =>
        cases r1 with
        | error p => rw [e1] at h; cases h
        | ok x1 =>
          obtain ⟨l, L1⟩ := x1
          rw [e1] at h
          have i1 := takeShape_sz (next_ok hL) e1
          have j1 := takeShape_lx (next_ok hL) e1
          cases e2 : takeShape cs n L1 with
          | none => simp only [e2] at h; cases h
          | some r2 =>
            cases r2 with
            | error p => simp only [e2] at h; cases h
            | ok x2 =>
              obtain ⟨r, L2⟩ := x2
              simp only [e2] at h
              have i2 := takeShape_sz j1 e2
              by_cases h2 : L2.s = [41]
              · rw [if_pos h2] at h
                cases h
                have a2 := next_ge (cs := cs) L2
                refine ⟨?_, ?_⟩
                · show 1 + max (dp l) (dp r) < n + 1
                  omega
                · show L.p + (1 + nn l + nn r) ≤ _
                  omega
              · rw [if_neg h2] at h
                cases h
    · rw [if_neg h1] at h
      by_cases h2 : L.s = [111]
      · rw [if_pos h2] at h
        cases h
        have := next_ge (cs := cs) L
        rw [h2] at this
        refine ⟨Nat.succ_pos _, this⟩
      · rw [if_neg h2] at h
        cases h
/-- shapes that are not too deep, not too great -/
def ShOk (n z : Nat) (t : Sh) : Prop := dp t < n ∧ nn t ≤ z
theorem takeEntries_sz {cs : Cs} {D : Nat} : ∀ {m : Nat} {L : Lx} {acc : List Sh} {ts : List Sh} {L' : Lx}, LxOk cs L → (∀ t ∈ acc, ShOk D cs.length t) → takeEntries cs D m L acc = some (.ok (ts, L')) → ∀ t ∈ ts, ShOk D cs.length t
  | 0, _, _, _, _, _, _, h => by unfold takeEntries at h; cases h
  | m + 1, L, acc, ts, L', hL, ha, h => by
    unfold takeEntries at h
    split at h
    · cases h
      exact ha
    · split at h
      · cases h
      · cases h
      · next t L1 e1 =>
        split at h
        · next h1 =>
          have i1 := takeShape_lx hL e1
          have l1 := takeShape_sz hL e1
          have := i1.le
          refine takeEntries_sz (next_ok i1) (fun t' ht => ?_) h
          rcases List.mem_append.mp ht with z | z
          · exact ha _ z
          · rw [List.mem_singleton.mp z]
            exact ⟨l1.1, by omega⟩
        · cases h
theorem takeTable_sz {cs : Cs} {D n : Nat} {L : Lx} {ts : List Sh} {L' : Lx} (hL : LxOk cs L) (h : takeTable cs D n L = some (.ok (ts, L'))) : ∀ t ∈ ts, ShOk D cs.length t := by
  obtain ⟨e1, h1⟩ := tk_ok h
  obtain ⟨e2, h2⟩ := tk_ok h1
  exact takeEntries_sz (next_ok (next_ok hL)) (by intro _ z; cases z) h2
def TabOk (n z : Nat) (ts : List Sh) : Prop := ∀ t ∈ ts, ShOk n z t
def TabsOk (n z : Nat) (tss : List (List Sh)) : Prop := ∀ ts ∈ tss, TabOk n z ts
theorem takeRound_sz {cs : Cs} {D n : Nat} : ∀ {m : Nat} {L : Lx} {acc : List (List Sh)} {ts : List (List Sh)} {L' : Lx}, LxOk cs L → TabsOk D cs.length acc → takeRound cs D n m L acc = some (.ok (ts, L')) → TabsOk D cs.length ts
  | 0, _, _, _, _, _, _, h => by unfold takeRound at h; cases h
  | m + 1, L, acc, ts, L', hL, ha, h => by
    unfold takeRound at h
    split at h
    · cases h
      exact ha
    · split at h
      · cases h
      · cases h
      · next t L1 e1 =>
        refine takeRound_sz (takeTable_lx hL e1).1 (fun t' ht => ?_) h
        rcases List.mem_append.mp ht with z | z
        · exact ha _ z
        · rw [List.mem_singleton.mp z]
          exact takeTable_sz hL e1
theorem takeTables_sz {cs : Cs} {D n : Nat} : ∀ {m : Nat} {L : Lx} {acc : List (List Sh)} {ts : List (List Sh)} {L' : Lx}, LxOk cs L → TabsOk D cs.length acc → takeTables cs D n m L acc = some (.ok (ts, L')) → TabsOk D cs.length ts ∧ LxOk cs L'
  | 0, _, _, _, _, _, _, h => by unfold takeTables at h; cases h
  | m + 1, L, acc, ts, L', hL, ha, h => by
    unfold takeTables at h
    split at h
    · split at h
      · cases h
      · cases h
      · next t L1 e1 =>
        refine takeTables_sz (takeTable_lx hL e1).1 (fun t' ht => ?_) h
        rcases List.mem_append.mp ht with z | z
        · exact ha _ z
        · rw [List.mem_singleton.mp z]
          exact takeTable_sz hL e1
    · cases h
      exact ⟨ha, hL⟩
def EnOk (n z : Nat) : En → Prop
  | .round ts => TabsOk n z ts
  | _ => True
theorem takeEnd_sz {cs : Cs} {D n : Nat} {L : Lx} {e : En} {L' : Lx} (hL : LxOk cs L) (h : takeEnd cs D n L = some (.ok (e, L'))) : EnOk D cs.length e := by
  unfold takeEnd at h
  split at h
  · obtain ⟨e1, h1⟩ := tk_ok h
    split at h1
    · cases h1
    · cases h1
    · next ts L2 e2 =>
      cases h1
      exact takeRound_sz (next_ok (next_ok hL)) (by intro _ z; cases z) e2
  · split at h
    · obtain ⟨e1, h1⟩ := tk_ok h
      cases h1
      trivial
    · obtain ⟨e1, h1⟩ := tk_ok h
      obtain ⟨e2, h2⟩ := tk_ok h1
      cases h2
      trivial
end K10
namespace K10
open PySem PySem.Spec PyProof.Rows L2
open SX (S S_len S_inj S_cat)
abbrev sWShape : Stmt := tp 17
abbrev sSizeOf : Stmt := tp 18
abbrev sWSizes : Stmt := tp 20
abbrev sWTable : Stmt := tp 21
abbrev sWMember : Stmt := tp 24
abbrev sWPlan : Stmt := tp 25
/-- either of two ways to walk -/
theorem pi_or {X : Cx} {tg e : Expr} {w1 w2 : TI} (h1 : PI X tg e w1) (h2 : PI X tg e w2) : PI X tg e (fun σ H R => w1 σ H R ∨ w2 σ H R) :=
  ⟨fun pins s σ H R I h => h.elim (h1.run pins s σ H R I) (h2.run pins s σ H R I)⟩
/-- None or a tuple -/
def NoT (k : Nat) (H : Hp) (r : V) : Prop := r = .non ∨ ∃ p xs, r = .ref p ∧ H p = some (.tup xs) ∧ xs.length ≤ k
theorem NoT.notN {k : Nat} {H : Hp} {r : V} (h : NoT k H r) (hd : (!decide (r = .non)) = true) : ∃ p xs, r = .ref p ∧ H p = some (.tup xs) ∧ xs.length ≤ k := by
  rcases h with h | h
  · rw [h] at hd
    cases hd
  · exact h
theorem ShVs.inv {H : Hp} {vs : List V} {ts : List Sh} (x : ShVs H vs ts) (h : vs ≠ []) : ∃ v t us, vs[vs.length - 1]? = some v ∧ ShV H v t ∧ ts = us ++ [t] ∧ ShVs H vs.dropLast us := by
  induction x with
  | nil => exact absurd rfl h
  | @cons v vs t ts hv r i =>
    cases r with
    | nil => exact ⟨v, t, [], rfl, hv, rfl, .nil⟩
    | @cons v2 vs2 t2 ts2 hv2 r2 =>
      obtain ⟨a, b, c, e1, e2, e3, e4⟩ := i (by simp)
      refine ⟨a, b, t :: c, ?_, e2, by rw [e3]; rfl, ?_⟩
      · show (v :: v2 :: vs2)[vs2.length + 1]? = some a
        exact e1
      · show ShVs H (v :: (v2 :: vs2).dropLast) (t :: c)
        exact .cons hv e4
theorem ShVs.app {H : Hp} {vs ws : List V} {ts us : List Sh} (x : ShVs H vs ts) (y : ShVs H ws us) : ShVs H (vs ++ ws) (ts ++ us) := by
  induction x with
  | nil => exact y
  | cons h _ i => exact .cons h i
section
variable {w : World} {K : PySem.W.Frag} {mg : Str → Option Value} {base : Heap}
def spSize : Sp := fun vs H Q _ => ∃ (v : V) (t : Sh), vs = [v] ∧ ShV H v t ∧ nn t ≤ 16000000 ∧ ∀ i H', Same H H' → Q (.int i) H'
theorem scSize : FnScope ["shape", "found", "rest", "part"] ["shape"] (defScope sSizeOf) := ⟨rfl, rfl, rfl, by decide +kernel, rfl, by decide +kernel, by decide +kernel⟩
theorem ok_size {f : Addr} {fd : FuncData} (F : Fun K "size_of" "size_of" sSizeOf f fd) : FnOk PP w K mg base CX0 1 f fd ["shape"] spSize := by
  refine F.ok scSize (fun vs H Q E h => ?_) (fun cdv A outer s H vs Q E hr h => ?_)
  · obtain ⟨l, p, rfl, _⟩ := h
    rfl
  · obtain ⟨v, t, rfl, hv, hz, q⟩ := h
    refine ⟨_, pss_cons (ps_par (i := 1) (j := 2) rfl scSize.nd rfl rfl (by decide) rfl rfl (pa_cons pe_int (pa_cons (pe_lst (pa_cons (pv 0) pa_nil)) pa_nil)) (by rfl))
      (pss_cons (ps_while PassesOwn.never (pt_cmpR (op_ne_nilL hr.units0) (pv 2) (pe_lst pa_nil) (nomark _))
        (pss_cons (ps_set (i := 3) scSize.nd rfl (Or.inl rfl) (pe_bm0 PySem.F.plainAttrs_list PySem.F.slot_list_pop PySem.F.type_list_pop mt_pop (pv 2)))
        (pss_cons (ps_aug (i := 1) scSize.nd rfl (Or.inl rfl) (pe_ifExp (pt_cmpR (op_eq_nilT hr.units0) (pv 3) (pe_tup pa_nil) (nomark _)) pe_int pe_int) ip_add)
        (pss_one (ps_expr (pe_bm PySem.F.plainAttrs_list PySem.F.slot_list_extend PySem.F.type_list_extend mt_extendT (pv 2) (by exact (pa_cons (pv 3) pa_nil))))))))
      (pss_one (ps_ret (pv 1)))), ?_⟩
    have z0 : sizeLine = 16777216 := sizeLine_eq
    refine ⟨_, rfl, by show 1 ≤ sizeLine; omega, fun l hl => ⟨_, _, rfl, ?_⟩⟩
    refine ⟨fun m σ H' => ∃ i vs ts r, σ = [some v, some (.int i), some (.ref l), r] ∧ H' l = some (.lst vs) ∧ ShVs H' vs ts ∧ nns ts = m ∧ m ≤ 16000000 ∧ Kp l H H', ⟨_, 0, [v], [t], none, rfl, upd_same, .cons (hv.same (same_upd hl)) .nil, rfl, by show nn t + 0 ≤ _; omega, Kp.of (same_upd hl)⟩, ?_⟩
    rintro m σ H1 ⟨i, vs, ts, r, rfl, h1, sv, rfl, hm, k1⟩
    refine ⟨_, rfl, by show 0 ≤ sizeLine; omega, fun u hu => ?_⟩
    have s2 := same_upd (o := .lst []) hu
    have h2 := s2 _ _ h1
    have sv2 := sv.same s2
    refine ⟨l, u, vs, rfl, rfl, SqL.of h2, SqL.of upd_same, _, rfl, ?_⟩
    show if (!vs.isEmpty) = true then _ else _
    by_cases he : vs = []
    · refine if_false_of (by rw [he]; rfl) ?_
      refine ⟨_, rfl, q _ _ ((k1.trans (Kp.of s2)).same hl)⟩
    · refine if_true_of (by cases vs with | nil => exact absurd rfl he | cons _ _ => rfl) ?_
      obtain ⟨y, ty, us, e1, e2, rfl, e4⟩ := sv2.inv he
      refine ⟨fun σ' H' => ∃ m', m' < nns (us ++ [ty]) ∧ ∃ i vs ts r, σ' = [some v, some (.int i), some (.ref l), r] ∧ H' l = some (.lst vs) ∧ ShVs H' vs ts ∧ nns ts = m' ∧ m' ≤ 16000000 ∧ Kp l H H', fun _ _ z => z, ?_⟩
      have n2 := noTup_lst h2
      have k3 : Kp l (upd H1 u (.lst [])) (upd (upd H1 u (.lst [])) l (.lst vs.dropLast)) := Kp.upd
      have e2' := e2.kp k3 n2
      have e4' := e4.kp k3 n2
      have k3' := (k1.trans (Kp.of s2)).trans k3
      have nlen := nns_len us
      have nle := e4.len
      rw [nns_append] at hm
      have nty : nns [ty] = nn ty := Nat.add_zero _
      refine ⟨_, rfl, Or.inl ⟨rfl, _, Or.inl (Or.inl h2)⟩, l, vs, y, rfl, rfl, h2, e1, ?_⟩
      refine ⟨_, rfl, ?_⟩
      have hh3 : upd (upd H1 u (.lst [])) l (.lst vs.dropLast) l = some (.lst vs.dropLast) := upd_same
      -- behind the sum
      have go : ∀ (H3 : Hp) (j : Int) (p : Addr) (xs : List V) (ts : List Sh), Same (upd (upd H1 u (.lst [])) l (.lst vs.dropLast)) H3 → H3 p = some (.tup xs) → ShVs H3 xs ts → y = .ref p → nns ts < nn ty → xs.length ≤ 2 →
          tDrop (tBM (cxOf CX0 PP w K mg base ["shape", "found", "rest", "part"] "size_of" (defScope sSizeOf) f cdv A outer s H E).nox.K "list" (rExtendT (cxOf CX0 PP w K mg base ["shape", "found", "rest", "part"] "size_of" (defScope sSizeOf) f cdv A outer s H E).nox.K) (tVar 2) (tCons (tVar 3) tNil))
            { nx := fun σ' H' => ∃ m', m' < nns (us ++ [ty]) ∧ ∃ i vs ts r, σ' = [some v, some (.int i), some (.ref l), r] ∧ H' l = some (.lst vs) ∧ ShVs H' vs ts ∧ nns ts = m' ∧ m' ≤ 16000000 ∧ Kp l H H', rt := Q } [some v, some (.int j), some (.ref l), some y] H3 := fun H3 j p xs ts s3 hp sx ey hlt hx2 => by
        subst ey
        have h3 := s3 _ _ hh3
        have k4 : Kp l H3 (upd H3 l (.lst (vs.dropLast ++ xs))) := Kp.upd
        have n3 := noTup_lst h3
        refine ⟨_, rfl, Or.inl ⟨rfl, _, Or.inl (Or.inl h3)⟩, _, rfl, l, p, vs.dropLast, xs, rfl, rfl, h3, SqT.of hp, by omega, ?_⟩
        refine ⟨nns us + nns ts, by rw [nns_append]; omega, j, vs.dropLast ++ xs, us ++ ts, _, rfl, upd_same, ?_, nns_append _ _, by omega, (k3'.trans (Kp.of s3)).trans k4⟩
        exact ShVs.app ((e4'.same s3).kp k4 n3) (sx.kp k4 n3)
      cases e2' with
      | @leaf p hp =>
        refine ⟨_, rfl, by show 0 ≤ sizeLine; omega, fun u2 hu2 => ⟨p, u2, [], rfl, rfl, SqT.of (same_upd hu2 _ _ hp), SqT.of upd_same, _, rfl, if_true_of rfl ?_⟩⟩
        refine ⟨_, _, rfl, rfl, ?_⟩
        exact go _ _ p [] [] (same_upd hu2) (same_upd hu2 _ _ hp) .nil rfl (by decide) (by decide)
      | @node p a b tl tr hp ha hb =>
        refine ⟨_, rfl, by show 0 ≤ sizeLine; omega, fun u2 hu2 => ⟨p, u2, [a, b], rfl, rfl, SqT.of (same_upd hu2 _ _ hp), SqT.of upd_same, _, rfl, if_false_of rfl ?_⟩⟩
        refine ⟨_, _, rfl, rfl, ?_⟩
        exact go _ _ p [a, b] [tl, tr] (same_upd hu2) (same_upd hu2 _ _ hp) (.cons (ha.same (same_upd hu2)) (.cons (hb.same (same_upd hu2)) .nil)) rfl (by show nn tl + (nn tr + 0) < 1 + nn tl + nn tr; omega) (Nat.le_refl _)
end
end K10
set_option maxHeartbeats 4000000
namespace K10
open PySem PySem.Spec PyProof.Rows L2
open SX (S S_len S_inj S_cat)
section
variable {w : World} {K : PySem.W.Frag} {mg : Str → Option Value} {base : Heap}
theorem ite_both {c : Bool} {A B : Prop} (h1 : c = true → A) (h2 : c = false → B) : if c = true then A else B := by
  cases c with
  | true => exact iteT (h1 rfl)
  | false => exact iteF (h2 rfl)
def spSizes : Sp := fun vs H Q _ => ∃ (v : V) (ts : List Sh) (n : Nat), vs = [v] ∧ TabV H v ts ∧ TabOk n 16000000 ts ∧ ∀ r H', Same H H' → NoT 1 H' r → Q r H'
theorem ShVs.get {H : Hp} {vs : List V} {ts : List Sh} (x : ShVs H vs ts) : ∀ {i : Nat} {v : V}, vs[i]? = some v → ∃ t, t ∈ ts ∧ ShV H v t := by
  induction x with
  | nil => intro i v h; cases h
  | @cons v' vs' t' ts' hv r ih =>
    intro i v h
    cases i with
    | zero =>
      cases h
      exact ⟨t', List.Mem.head _, hv⟩
    | succ i =>
      obtain ⟨t, m, q⟩ := ih h
      exact ⟨t, List.Mem.tail _ m, q⟩
theorem scSizes : FnScope ["shapes", "k", "shape"] ["shapes"] (defScope sWSizes) := ⟨rfl, rfl, rfl, by decide +kernel, rfl, by decide +kernel, by decide +kernel⟩
theorem ok_sizes {f fS : Addr} {fd fdS : FuncData} (F : Fun K "wrong_sizes" "wrong_sizes" sWSizes f fd) (T : GT K mg) (NS : Fn K mg "size_of" sSizeOf fS fdS ["shape"]) : FnOk PP w K mg base CX0 2 f fd ["shapes"] spSizes := by
  have GS : FnOk PP w K mg base CX0 1 fS fdS ["shape"] spSize := ok_size NS.F
  refine F.ok scSizes (fun vs H Q E h => ?_) (fun cdv A outer s H vs Q E hr h => ?_)
  · obtain ⟨l, p, n, rfl, _⟩ := h
    rfl
  · obtain ⟨v, ts, n, rfl, ⟨p, xs, rfl, hp, sx⟩, hz, q⟩ := h
    refine ⟨_, pss_cons (ps_for PassesOwn.never rfl (pi_enumT (by rfl) T.enum (pa_cons (pv 0) pa_nil)) (pg_tup rfl (pgs_cons (pg_name (i := 1) scSizes.nd rfl (Or.inl rfl)) (pgs_cons (pg_name (i := 2) scSizes.nd rfl (Or.inl rfl)) pgs_nil)))
        (pss_one (ps_if (pt_cmpR op_ne (pe_call GS hr (by rfl) NS.g NS.F.kp NS.b .nil pass0 (pa_cons (pv 2) pa_nil)) (pe_op op_add (pv 1) pe_int) (nomark _)) (pss_one (ps_ret (pe_tup (pa_cons (pv 1) pa_nil)))) pss_nil)))
      (pss_one (ps_ret pe_non)), ?_⟩
    have z0 : sizeLine = 16777216 := sizeLine_eq
    refine ⟨_, rfl, p, xs, rfl, SqT.of hp, for_it walk_enumT (fun i σ H' => Same H H' ∧ ∃ r1 r2, σ = [some (.ref p), r1, r2]) ⟨Same.refl _, _, _, rfl⟩ (fun _ _ _ _ h => SqT.of (h.1 _ _ hp)) ?_ ?_⟩
    · rintro i x σ H1 H2 hi ⟨s1, r1, r2, rfl⟩ ⟨t, x1, x2, rfl, ht, rfl, e1, e2⟩
      cases e1
      have s2 := s1.trans (same_upd (o := .tup [.int (i : Nat), x2]) ht)
      obtain ⟨ty, m, hv⟩ := (sx.same s2).get e2
      refine ⟨t, _, rfl, SqT.of upd_same, rfl, _, _, rfl, _, _, rfl, rfl, ?_⟩
      refine ⟨_, rfl, _, _, rfl, hv, (hz _ m).2, fun j H3 s3 => ?_⟩
      refine ⟨_, rfl, _, _, rfl, rfl, rfl, _, rfl, ?_⟩
      refine ite_both (fun _ => ?_) (fun _ => ?_)
      · refine ⟨_, rfl, by show 1 ≤ sizeLine; omega, fun u hu => ?_⟩
        exact q _ _ ((s2.trans s3).trans (same_upd hu)) (.inr ⟨u, _, rfl, upd_same, Nat.le_refl _⟩)
      · exact ⟨s2.trans s3, _, _, rfl⟩
    · rintro σ H1 ⟨s1, r1, r2, rfl⟩
      exact q _ _ s1 (.inl rfl)
def spWShape (n : Nat) : Sp := fun vs H Q _ => ∃ (v : V) (t : Sh), vs = [v] ∧ ShV H v t ∧ dp t < n ∧ ∀ H', Same H H' → Q .non H'
theorem scWShape : FnScope ["value", "side", "part", "path"] ["value"] (defScope sWShape) := ⟨rfl, rfl, rfl, by decide +kernel, rfl, by decide +kernel, by decide +kernel⟩
theorem ok_wshape {f : Addr} {fd : FuncData} (N : Fn K mg "wrong_shape" sWShape f fd ["value"]) (T : GT K mg) : ∀ n, FnOk PP w K mg base CX0 n f fd ["value"] (spWShape n)
  | 0 => by
    refine ⟨fun vs H Q E h => ?_, fun A outer s H args us vs Q E hr e0 hb r h => ?_⟩
    · obtain ⟨_, _, rfl, _⟩ := h
      rfl
    · obtain ⟨_, _, _, _, h, _⟩ := h
      exact absurd h (Nat.not_lt_zero _)
  | n + 1 => by
    have GS := ok_wshape N T n
    refine N.F.ok scWShape (fun vs H Q E h => ?_) (fun cdv A outer s H vs Q E hr h => ?_)
    · obtain ⟨_, _, rfl, _⟩ := h
      rfl
    · obtain ⟨v, t, rfl, hv, hd, q⟩ := h
      refine ⟨_, pss_cons (ps_if (PW.pt (pw_or (pt_not (pt_val (pe_callB call_isi (by rfl) T.isi (by decide +kernel) (pa_cons (pv 0) (pa_cons (pe_bltn (v := .ty "tuple") (by rfl) T.tup (by decide +kernel) rfl) pa_nil)))))
            (pw_or1 (pt_cmpR op_notIn_seq (pe_callB call_len (by rfl) T.len PySem.boot_len (pa_cons (pv 0) pa_nil)) (pe_tup (pa_cons pe_int (pa_cons pe_int pa_nil))) (by rfl)))))
          (pss_one (ps_ret (pe_tup pa_nil))) pss_nil)
        (pss_cons (ps_for PassesOwn.never rfl (pi_enumT (by rfl) T.enum (pa_cons (pv 0) pa_nil)) (pg_tup rfl (pgs_cons (pg_name (i := 1) scWShape.nd rfl (Or.inl rfl)) (pgs_cons (pg_name (i := 2) scWShape.nd rfl (Or.inl rfl)) pgs_nil)))
          (pss_cons (ps_set (i := 3) scWShape.nd rfl (Or.inl rfl) (pe_call GS hr (by rfl) N.g N.F.kp N.b .nil pass0 (pa_cons (pv 2) pa_nil)))
          (pss_one (ps_if (pt_cmpR op_notN (pv 3) pe_non (by rfl)) (pss_one (ps_ret (pe_tup (pa_cons (pv 1) (StX.pa_star (pv 3) pa_nil))))) pss_nil))))
        (pss_one (ps_ret pe_non))), ?_⟩
      have z0 : sizeLine = 16777216 := sizeLine_eq
      obtain ⟨p, xs, rfl, hp, hl, hx⟩ : ∃ p xs, v = V.ref p ∧ H p = some (.tup xs) ∧ (xs.length = 0 ∨ xs.length = 2) ∧ ∀ (H' : Hp), Same H H' → ∀ (i : Nat) (x : V), xs[i]? = some x → ∃ ty, ShV H' x ty ∧ dp ty < n := by
        cases hv with
        | @leaf p hp => exact ⟨p, [], rfl, hp, .inl rfl, fun _ _ i x h => by cases h⟩
        | @node p a b tl tr hp ha hb =>
          have hd' : 1 + max (dp tl) (dp tr) < n + 1 := hd
          refine ⟨p, [a, b], rfl, hp, .inr rfl, fun H' s1 i x h => ?_⟩
          match i, h with
          | 0, h => cases h; exact ⟨_, ha.same s1, by omega⟩
          | 1, h => cases h; exact ⟨_, hb.same s1, by omega⟩
          | i + 2, h => cases h
      refine ⟨_, rfl, _, _, _, _, true, rfl, .ty "tuple", .base (.tup hp), kit_ty (by decide +kernel), true, rfl, if_false_of rfl ?_⟩
      refine ⟨_, rfl, _, xs.length, rfl, .inr ⟨xs, SqT.of hp, rfl⟩, by show 2 ≤ sizeLine; omega, fun u hu => ?_⟩
      have s1 := same_upd (o := .tup [.int 0, .int 2]) hu
      refine ⟨u, _, rfl, .inr (SqT.of upd_same), rfl, rfl, _, rfl, ?_⟩
      refine if_false_of (by rcases hl with e | e <;> rw [e] <;> rfl) ?_
      refine ⟨_, rfl, p, xs, rfl, SqT.of (s1 _ _ hp), for_it walk_enumT (fun i σ H' => Same H H' ∧ ∃ r1 r2 r3, σ = [some (.ref p), r1, r2, r3]) ⟨s1, _, _, _, rfl⟩ (fun _ _ _ _ h => SqT.of (h.1 _ _ hp)) ?_ ?_⟩
      · rintro i x σ H1 H2 hi ⟨s2, r1, r2, r3, rfl⟩ ⟨t', x1, x2, rfl, ht, rfl, e1, e2⟩
        cases e1
        have s3 := s2.trans (same_upd (o := .tup [.int (i : Nat), x2]) ht)
        obtain ⟨ty, hv2, hd2⟩ := hx _ s3 _ _ e2
        refine ⟨t', _, rfl, SqT.of upd_same, rfl, _, _, rfl, _, _, rfl, rfl, ?_⟩
        refine ⟨_, rfl, x2, ty, rfl, hv2, hd2, fun H3 s4 => ?_⟩
        refine ⟨_, rfl, rfl, _, rfl, if_false_of rfl ?_⟩
        exact ⟨s3.trans s4, _, _, _, rfl⟩
      · rintro σ H1 ⟨s2, r1, r2, r3, rfl⟩
        exact q _ s2
def spWTable (n : Nat) : Sp := fun vs H Q _ => ∃ (v : V) (ts : List Sh), vs = [v] ∧ TabV H v ts ∧ TabOk n 16000000 ts ∧ ∀ r H', Same H H' → NoT 1 H' r → Q r H'
theorem scWTable : FnScope ["value", "k", "shape", "path"] ["value"] (defScope sWTable) := ⟨rfl, rfl, rfl, by decide +kernel, rfl, by decide +kernel, by decide +kernel⟩
theorem ok_wtable {f fS fZ : Addr} {fd fdS fdZ : FuncData} {n : Nat} (hn : 2 ≤ n) (N : Fn K mg "wrong_table" sWTable f fd ["value"]) (T : GT K mg) (NS : Fn K mg "wrong_shape" sWShape fS fdS ["value"]) (NZ : Fn K mg "wrong_sizes" sWSizes fZ fdZ ["shapes"])
    (GZ : FnOk PP w K mg base CX0 2 fZ fdZ ["shapes"] spSizes) : FnOk PP w K mg base CX0 (n + 1) f fd ["value"] (spWTable n) := by
  have GS : FnOk PP w K mg base CX0 n fS fdS ["value"] (spWShape n) := ok_wshape NS T n
  refine N.F.ok scWTable (fun vs H Q E h => ?_) (fun cdv A outer s H vs Q E hr h => ?_)
  · obtain ⟨_, _, rfl, _⟩ := h
    rfl
  · obtain ⟨v, ts, rfl, ⟨p, xs, rfl, hp, sx⟩, hz, q⟩ := h
    refine ⟨_, pss_cons (ps_if (PW.pt (pw_or (pt_not (pt_val (pe_callB call_isi (by rfl) T.isi (by decide +kernel) (pa_cons (pv 0) (pa_cons (pe_bltn (v := .ty "tuple") (by rfl) T.tup (by decide +kernel) rfl) pa_nil)))))
          (pw_or1 (pt_cmpR (op_eq_nilT hr.units0) (pv 0) (pe_tup pa_nil) (nomark _)))))
        (pss_one (ps_ret (pe_tup pa_nil))) pss_nil)
      (pss_cons (ps_for PassesOwn.never rfl (pi_enumT (by rfl) T.enum (pa_cons (pv 0) pa_nil)) (pg_tup rfl (pgs_cons (pg_name (i := 1) scWTable.nd rfl (Or.inl rfl)) (pgs_cons (pg_name (i := 2) scWTable.nd rfl (Or.inl rfl)) pgs_nil)))
        (pss_cons (ps_set (i := 3) scWTable.nd rfl (Or.inl rfl) (pe_call GS hr (by rfl) NS.g NS.F.kp NS.b .nil pass0 (pa_cons (pv 2) pa_nil)))
        (pss_one (ps_if (pt_cmpR op_notN (pv 3) pe_non (by rfl)) (pss_one (ps_ret (pe_tup (pa_cons (pv 1) (StX.pa_star (pv 3) pa_nil))))) pss_nil))))
      (pss_one (ps_ret (pe_call GZ (hr.mono hn) (by rfl) NZ.g NZ.F.kp NZ.b .nil pass0 (pa_cons (pv 0) pa_nil))))), ?_⟩
    have z0 : sizeLine = 16777216 := sizeLine_eq
    refine ⟨_, rfl, _, _, _, _, true, rfl, .ty "tuple", .base (.tup hp), kit_ty (by decide +kernel), true, rfl, if_false_of rfl ?_⟩
    refine ⟨_, rfl, by show 0 ≤ sizeLine; omega, fun u hu => ?_⟩
    have s1 := same_upd (o := .tup []) hu
    refine ⟨p, u, xs, rfl, rfl, SqT.of (s1 _ _ hp), SqT.of upd_same, _, rfl, ite_both (fun _ => ?_) (fun _ => ?_)⟩
    · refine ⟨by show 0 ≤ sizeLine; omega, fun u2 hu2 => ?_⟩
      exact q _ _ (s1.trans (same_upd hu2)) (.inr ⟨u2, _, rfl, upd_same, Nat.zero_le _⟩)
    · refine ⟨_, rfl, p, xs, rfl, SqT.of (s1 _ _ hp), for_it walk_enumT (fun i σ H' => Same H H' ∧ ∃ r1 r2 r3, σ = [some (.ref p), r1, r2, r3]) ⟨s1, _, _, _, rfl⟩ (fun _ _ _ _ h => SqT.of (h.1 _ _ hp)) ?_ ?_⟩
      · rintro i x σ H1 H2 hi ⟨s2, r1, r2, r3, rfl⟩ ⟨t', x1, x2, rfl, ht, rfl, e1, e2⟩
        cases e1
        have s3 := s2.trans (same_upd (o := .tup [.int (i : Nat), x2]) ht)
        obtain ⟨ty, m, hv2⟩ := (sx.same s3).get e2
        refine ⟨t', _, rfl, SqT.of upd_same, rfl, _, _, rfl, _, _, rfl, rfl, ?_⟩
        refine ⟨_, rfl, x2, ty, rfl, hv2, (hz _ m).1, fun H3 s4 => ?_⟩
        refine ⟨_, rfl, rfl, _, rfl, if_false_of rfl ?_⟩
        exact ⟨s3.trans s4, _, _, _, rfl⟩
      · rintro σ H1 ⟨s2, r1, r2, r3, rfl⟩
        exact ⟨_, rfl, _, ts, n, rfl, ⟨p, xs, rfl, s2 _ _ hp, sx.same s2⟩, hz, fun r H' s3 nt => q _ _ (s2.trans s3) nt⟩
/-- a list or a tuple of tables -/
def SeqTab (H : Hp) (v : V) (tss : List (List Sh)) : Prop := ∃ p xs, v = .ref p ∧ (H p = some (.lst xs) ∨ H p = some (.tup xs)) ∧ TabVs H xs tss
theorem SeqTab.same {H H' : Hp} (k : Same H H') {v : V} {ts : List (List Sh)} (x : SeqTab H v ts) : SeqTab H' v ts := by
  obtain ⟨p, xs, rfl, h, r⟩ := x
  exact ⟨p, xs, rfl, h.imp (k _ _) (k _ _), r.same k⟩
theorem TabVs.get {H : Hp} {vs : List V} {ts : List (List Sh)} (x : TabVs H vs ts) : ∀ {i : Nat} {v : V}, vs[i]? = some v → ∃ t, t ∈ ts ∧ TabV H v t := by
  induction x with
  | nil => intro i v h; cases h
  | @cons v' vs' t' ts' hv r ih =>
    intro i v h
    cases i with
    | zero =>
      cases h
      exact ⟨t', List.Mem.head _, hv⟩
    | succ i =>
      obtain ⟨t, m, q⟩ := ih h
      exact ⟨t, List.Mem.tail _ m, q⟩
/-- a turn over a list's or a tuple's items with their numbers -/
def Seq2 (K : PySem.W.Frag) (H : Hp) (p : Addr) (xs : List V) : Prop := SqL K H p xs ∨ SqT K H p xs
/-- the walk over either: the wish by the walks of both -/
theorem enum_both {K : PySem.W.Frag} {i : Nat} {p : Addr} {xs : List V} {σ : L2.St} {H : Hp} {g : TG} {tb : TS} {D : Ends} (Pv : Nat → L2.St → Hp → Prop) (hp : H p = some (.lst xs) ∨ H p = some (.tup xs)) (hv : σ[i]? = some (some (.ref p))) (h0 : Pv 0 σ H)
    (hG : ∀ j σ' H', j ≤ xs.length → Pv j σ' H' → Same H H') (hs : ∀ j x σ' H1 H2, j < xs.length → Pv j σ' H1 → YPair (fun i => some (.int (i : Nat))) (fun i => xs[i]?) j H1 x H2 → g x σ' H2 fun σ2 H3 => tb { D with nx := Pv (j + 1), ct := Pv (j + 1), bk := D.nx } σ2 H3)
    (hd : ∀ σ' H', Pv xs.length σ' H' → D.nx σ' H') :
    tFor (fun σ H R => iEnum K (tCons (tVar i) tNil) σ H R ∨ iEnumT K (tCons (tVar i) tNil) σ H R) g tb D σ H := by
  rcases hp with hp | hp
  · exact .inl ⟨_, hv, p, xs, rfl, SqL.of hp, for_it walk_enum Pv h0 (fun j σ' H' hj z => SqL.of (hG j σ' H' hj z _ _ hp)) hs hd⟩
  · exact .inr ⟨_, hv, p, xs, rfl, SqT.of hp, for_it walk_enumT Pv h0 (fun j σ' H' hj z => SqT.of (hG j σ' H' hj z _ _ hp)) hs hd⟩
def spWMember (n : Nat) : Sp := fun vs H Q _ => ∃ (v : V) (tss : List (List Sh)), vs = [v] ∧ SeqTab H v tss ∧ TabsOk n 16000000 tss ∧ ∀ r H', Same H H' → NoT 2 H' r → Q r H'
theorem scWMember : FnScope ["tables", "k", "table", "path"] ["tables"] (defScope sWMember) := ⟨rfl, rfl, rfl, by decide +kernel, rfl, by decide +kernel, by decide +kernel⟩
theorem ok_wmember {f fS : Addr} {fd fdS : FuncData} {n : Nat} (N : Fn K mg "wrong_member" sWMember f fd ["tables"]) (T : GT K mg) (NS : Fn K mg "wrong_table" sWTable fS fdS ["value"])
    (GS : FnOk PP w K mg base CX0 (n + 1) fS fdS ["value"] (spWTable n)) : FnOk PP w K mg base CX0 (n + 2) f fd ["tables"] (spWMember n) := by
  refine N.F.ok scWMember (fun vs H Q E h => ?_) (fun cdv A outer s H vs Q E hr h => ?_)
  · obtain ⟨_, _, rfl, _⟩ := h
    rfl
  · obtain ⟨v, tss, rfl, ⟨p, xs, rfl, hp, sx⟩, hz, q⟩ := h
    refine ⟨_, pss_cons (ps_for PassesOwn.never rfl (pi_or (pi_enum (by rfl) T.enum (pa_cons (pv 0) pa_nil)) (pi_enumT (by rfl) T.enum (pa_cons (pv 0) pa_nil))) (pg_tup rfl (pgs_cons (pg_name (i := 1) scWMember.nd rfl (Or.inl rfl)) (pgs_cons (pg_name (i := 2) scWMember.nd rfl (Or.inl rfl)) pgs_nil)))
        (pss_cons (ps_set (i := 3) scWMember.nd rfl (Or.inl rfl) (pe_call GS hr (by rfl) NS.g NS.F.kp NS.b .nil pass0 (pa_cons (pv 2) pa_nil)))
        (pss_one (ps_if (pt_cmpR op_notN (pv 3) pe_non (by rfl)) (pss_one (ps_ret (pe_tup (pa_cons (pv 1) (StX.pa_star (pv 3) pa_nil))))) pss_nil))))
      (pss_one (ps_ret pe_non)), ?_⟩
    have z0 : sizeLine = 16777216 := sizeLine_eq
    refine enum_both (fun i σ H' => Same H H' ∧ ∃ r1 r2 r3, σ = [some (.ref p), r1, r2, r3]) hp rfl ⟨Same.refl _, _, _, _, rfl⟩ (fun _ _ _ _ h => h.1) ?_ ?_
    · rintro i x σ H1 H2 hi ⟨s2, r1, r2, r3, rfl⟩ ⟨t', x1, x2, rfl, ht, rfl, e1, e2⟩
      cases e1
      have s3 := s2.trans (same_upd (o := .tup [.int (i : Nat), x2]) ht)
      obtain ⟨ty, m, hv2⟩ := (sx.same s3).get e2
      refine ⟨t', _, rfl, SqT.of upd_same, rfl, _, _, rfl, _, _, rfl, rfl, ?_⟩
      refine ⟨_, rfl, x2, ty, rfl, hv2, hz _ m, fun r H3 s4 nt => ?_⟩
      refine ⟨_, rfl, rfl, _, rfl, ite_both (fun hb => ?_) (fun _ => ?_)⟩
      · obtain ⟨pr, ys, rfl, hpr, hl⟩ := nt.notN hb
        refine ⟨_, rfl, _, rfl, pr, ys, rfl, .inl (SqT.of hpr), by show (ys ++ []).length + 1 ≤ _; rw [List.append_nil]; omega, fun u hu => ?_⟩
        refine q _ _ ((s3.trans s4).trans (same_upd hu)) (.inr ⟨u, _, rfl, upd_same, ?_⟩)
        show (ys ++ []).length + 1 ≤ 2
        rw [List.append_nil]
        omega
      · exact ⟨s3.trans s4, _, _, _, rfl⟩
    · rintro σ H1 ⟨s2, r1, r2, r3, rfl⟩
      exact q _ _ s2 (.inl rfl)
end
end K10
set_option maxHeartbeats 4000000
namespace K10
open PySem PySem.Spec PyProof.Rows L2
open SX (S S_len S_inj S_cat)
abbrev sPlanI : Stmt := inClass (tp 26) 0
section
variable {w : World} {K : PySem.W.Frag} {mg : Str → Option Value} {base : Heap} {CP CB : Addr}
/-- the classes of tables and plans, the ends -/
structure GP (w : World) (K : PySem.W.Frag) (mg : Str → Option Value) (CP CB : Addr) : Prop where
  cl : Cls K CP
  n1 : NoAttr K CP "own_tables"
  n2 : NoAttr K CP "own_end"
  mgP : mg "Plan" = some (.ref CP)
  mgB : mg "BadPlan" = some (.ref CB)
  x : ∃ fI cda cc, K10E.XT PP K mg sPlanErrI "BadPlan.__init__" "path" "path" CB fI cda cc
  ends : ∃ a, mg "ENDS" = some (.ref a) ∧ ∀ H, SqT K H a [.str "left", .str "right"]
theorem EndV.same {H H' : Hp} (k : Same H H') {v : V} {e : En} (x : EndV H v e) : EndV H' v e := by
  cases e with
  | left => exact x
  | right => exact x
  | round ts =>
    obtain ⟨p, vs, e, h, r⟩ := x
    exact ⟨p, vs, e, k _ _ h, r.same k⟩
def spWPlan (n : Nat) : Sp := fun vs H Q _ => ∃ (v e : V) (tss : List (List Sh)) (en : En), vs = [v, e] ∧ SeqTab H v tss ∧ TabsOk n 16000000 tss ∧ EndV H e en ∧ EnOk n 16000000 en ∧ ∀ r H', Same H H' → NoT 3 H' r → Q r H'
theorem scWPlan : FnScope ["tables", "end", "path"] ["tables", "end"] (defScope sWPlan) := ⟨rfl, rfl, rfl, by decide +kernel, rfl, by decide +kernel, by decide +kernel⟩
theorem ok_wplan {f fS : Addr} {fd fdS : FuncData} {n : Nat} (N : Fn K mg "wrong_plan" sWPlan f fd ["tables", "end"]) (T : GT K mg) (G : GP w K mg CP CB) (NS : Fn K mg "wrong_member" sWMember fS fdS ["tables"])
    (GS : FnOk PP w K mg base CX0 (n + 2) fS fdS ["tables"] (spWMember n)) : FnOk PP w K mg base CX0 (n + 3) f fd ["tables", "end"] (spWPlan n) := by
  obtain ⟨aE, gE, hE⟩ := G.ends
  refine N.F.ok scWPlan (fun vs H Q E h => ?_) (fun cdv A outer s H vs Q E hr h => ?_)
  · obtain ⟨_, _, _, _, rfl, _⟩ := h
    rfl
  · obtain ⟨v, e, tss, en, rfl, ht, hz, he, hez, q⟩ := h
    refine ⟨_, pss_cons (ps_if (pt_not (pt_val (pe_callB call_isiT (by rfl) T.isi (by decide +kernel) (pa_cons (pv 0) (pa_cons (pe_tup (pa_cons (pe_bltn (v := .ty "list") (by rfl) T.lst (by decide +kernel) rfl) (pa_cons (pe_bltn (v := .ty "tuple") (by rfl) T.tup (by decide +kernel) rfl) pa_nil))) pa_nil)))))
        (pss_one (ps_ret (pe_tup (pa_cons pe_int pa_nil)))) pss_nil)
      (pss_cons (ps_set (i := 2) scWPlan.nd rfl (Or.inl rfl) (pe_call GS hr (by rfl) NS.g NS.F.kp NS.b .nil pass0 (pa_cons (pv 0) pa_nil)))
      (pss_cons (ps_if (pt_cmpR op_notN (pv 2) pe_non (by rfl)) (pss_one (ps_ret (pe_tup (pa_cons pe_int (StX.pa_star (pv 2) pa_nil))))) pss_nil)
      (pss_cons (ps_if (PW.pt (pw_and (pt_val (pe_callB call_isi (by rfl) T.isi (by decide +kernel) (pa_cons (pv 1) (pa_cons (pe_bltn (v := .ty "str") (by rfl) T.str (by decide +kernel) rfl) pa_nil))))
          (pw_and1 (pt_cmpR op_in_seq (pv 1) (pe_glob (v := .ref aE) (by rfl) gE rfl) (by rfl))))) (pss_one (ps_ret pe_non)) pss_nil)
      (pss_cons (ps_if (PW.pt (pw_or (pt_not (pt_val (pe_callB call_isi (by rfl) T.isi (by decide +kernel) (pa_cons (pv 1) (pa_cons (pe_bltn (v := .ty "tuple") (by rfl) T.tup (by decide +kernel) rfl) pa_nil)))))
          (pw_or1 (pt_cmpR (op_eq_nilT hr.units0) (pv 1) (pe_tup pa_nil) (nomark _))))) (pss_one (ps_ret (pe_tup (pa_cons pe_int pa_nil)))) pss_nil)
      (pss_cons (ps_set (i := 2) scWPlan.nd rfl (Or.inl rfl) (pe_call GS hr (by rfl) NS.g NS.F.kp NS.b .nil pass0 (pa_cons (pv 1) pa_nil)))
      (pss_one (ps_ret (pe_ifExp (pt_cmpR op_isN (pv 2) pe_non (by rfl)) pe_non (pe_tup (pa_cons pe_int (StX.pa_star (pv 2) pa_nil))))))))))), ?_⟩
    have z0 : sizeLine = 16777216 := sizeLine_eq
    obtain ⟨p, xs, rfl, hp, sx⟩ := id ht
    refine ⟨_, rfl, by show 2 ≤ sizeLine; omega, fun u hu => ?_⟩
    have s1 := same_upd (o := .tup [.ty "list", .ty "tuple"]) hu
    have ht1 := ht.same s1
    have hk : PySem.W.kitAny K (match H p with | some (.lst _) => .type "list" | _ => .type "tuple") [.type "list", .type "tuple"] = some true := by
      rcases hp with hp | hp
      · rw [hp]
        exact kitAny_cons (b := true) (kit_ty (by decide +kernel)) (fun z => nomatch z) fun _ => rfl
      · rw [hp]
        exact kitAny_cons (b := false) (kit_ty (by decide +kernel)) (fun _ => kitAny_cons (b := true) (kit_ty (by decide +kernel)) (fun z => nomatch z) fun _ => rfl) (fun z => nomatch z)
    have hty : TyX K (upd H u (.tup [.ty "list", .ty "tuple"])) (.ref p) (match H p with | some (.lst _) => .type "list" | _ => .type "tuple") := by
      rcases hp with hp | hp
      · rw [hp]
        exact .base (.lst (s1 _ _ hp))
      · rw [hp]
        exact .base (.tup (s1 _ _ hp))
    refine ⟨_, u, _, _, _, true, rfl, upd_same, .cons (.ty "list") (.cons (.ty "tuple") .nil), hty, hk, true, rfl, if_false_of rfl ?_⟩
    refine ⟨_, rfl, _, tss, rfl, ht1, hz, fun r H2 s2 nt => ?_⟩
    refine ⟨_, rfl, rfl, _, rfl, ite_both (fun hb => ?_) (fun _ => ?_)⟩
    · obtain ⟨pr, ys, rfl, hpr, hl⟩ := nt.notN hb
      refine ⟨_, rfl, pr, ys, rfl, .inl (SqT.of hpr), by show (ys ++ []).length + 1 ≤ _; rw [List.append_nil]; omega, fun u2 hu2 => ?_⟩
      refine q _ _ ((s1.trans s2).trans (same_upd hu2)) (.inr ⟨u2, _, rfl, upd_same, ?_⟩)
      show (ys ++ []).length + 1 ≤ 3
      rw [List.append_nil]
      omega
    · have s12 := s1.trans s2
      cases en with
      | left =>
        have ez : e = .str (S wLeft) := he
        subst ez
        refine ⟨_, rfl, _, _, _, _, true, rfl, .ty "str", .base (.str _), kit_ty (by decide +kernel), true, rfl, if_true_of rfl ?_⟩
        refine ⟨_, rfl, aE, _, rfl, .inr (hE _), rfl, rfl, _, rfl, if_true_of (by decide +kernel) ?_⟩
        exact q _ _ s12 (.inl rfl)
      | right =>
        have ez : e = .str (S wRight) := he
        subst ez
        refine ⟨_, rfl, _, _, _, _, true, rfl, .ty "str", .base (.str _), kit_ty (by decide +kernel), true, rfl, if_true_of rfl ?_⟩
        refine ⟨_, rfl, aE, _, rfl, .inr (hE _), rfl, rfl, _, rfl, if_true_of (by decide +kernel) ?_⟩
        exact q _ _ s12 (.inl rfl)
      | round ts =>
        obtain ⟨pe, xe, rfl, hpe, se⟩ := he
        have h2 := s12 _ _ hpe
        refine ⟨_, rfl, _, _, _, _, false, rfl, .ty "str", .base (.tup h2), kit_ty (by decide +kernel), false, rfl, if_false_of rfl ?_⟩
        refine if_false_of rfl ?_
        refine ⟨_, rfl, _, _, _, _, true, rfl, .ty "tuple", .base (.tup h2), kit_ty (by decide +kernel), true, rfl, if_false_of rfl ?_⟩
        refine ⟨_, rfl, by show 0 ≤ sizeLine; omega, fun u2 hu2 => ?_⟩
        have s3 := s12.trans (same_upd (o := .tup []) hu2)
        refine ⟨pe, u2, xe, rfl, rfl, SqT.of (s3 _ _ hpe), SqT.of upd_same, _, rfl, ite_both (fun _ => ?_) (fun _ => ?_)⟩
        · refine ⟨by show 1 ≤ sizeLine; omega, fun u3 hu3 => ?_⟩
          exact q _ _ (s3.trans (same_upd hu3)) (.inr ⟨u3, _, rfl, upd_same, by show 1 ≤ 3; omega⟩)
        · refine ⟨_, rfl, _, ts, rfl, ⟨pe, xe, rfl, .inr (s3 _ _ hpe), se.same s3⟩, hez, fun r H3 s4 nt => ?_⟩
          refine ⟨_, rfl, rfl, _, rfl, ite_both (fun hb => ?_) (fun hb => ?_)⟩
          · exact q _ _ (s3.trans s4) (.inl rfl)
          · obtain ⟨pr, ys, rfl, hpr, hl⟩ := nt.notN (by rw [hb]; rfl)
            refine ⟨_, rfl, pr, ys, rfl, .inl (SqT.of hpr), by show (ys ++ []).length + 1 ≤ _; rw [List.append_nil]; omega, fun u3 hu3 => ?_⟩
            refine q _ _ ((s3.trans s4).trans (same_upd hu3)) (.inr ⟨u3, _, rfl, upd_same, ?_⟩)
            show (ys ++ []).length + 1 ≤ 3
            rw [List.append_nil]
            omega
def isTupV (v : V) (H : Hp) : Prop := ∃ p xs, v = .ref p ∧ H p = some (.tup xs)
theorem okTup_of {X : Cx} {pins : List (Addr × Obj)} {σ : L2.St} {H : Hp} {s : Shared} {v : V} {u : Value} (I : Inv X pins σ H s) (r : RelV v u) (c : isTupV v H) : okTup s.heap u := by
  obtain ⟨p, xs, rfl, h⟩ := c
  obtain rfl : u = Value.ref p := r
  obtain ⟨its, _, pl, _⟩ := I.tuple (SqT.of h)
  exact ⟨p, its.toArray, rfl, pl⟩
/-- a plan is made, or BadPlan is raised -/
def spPlanI (CP CB : Addr) (n : Nat) : Sp := fun vs H Q E => ∃ (a dx : Addr) (v e : V) (tss : List (List Sh)) (en : En), vs = [.ref a, v, e] ∧ H a = some (.ins CP dx []) ∧ SeqTab H v tss ∧ TabsOk n 16000000 tss ∧ EndV H e en ∧ EnOk n 16000000 en ∧
  (∀ H', Kp a H H' → Q .non H') ∧ ∀ d H', Kp a H H' → E (.ref CB) (some d) H'
theorem scPlanI : FnScope ["self", "tables", "end", "path"] ["self", "tables", "end"] (defScope sPlanI) := ⟨rfl, rfl, rfl, by decide +kernel, rfl, by decide +kernel, by decide +kernel⟩
theorem ok_planI {f fS : Addr} {fd fdS : FuncData} {n : Nat} (F : Fun K "__init__" "Plan.__init__" sPlanI f fd) (T : GT K mg) (G : GP w K mg CP CB) (NS : Fn K mg "wrong_plan" sWPlan fS fdS ["tables", "end"])
    (GS : FnOk PP w K mg base CX0 (n + 3) fS fdS ["tables", "end"] (spWPlan n)) : FnOk PP w K mg base (L2.CX PP w) (n + 4) f fd ["self", "tables", "end"] (spPlanI CP CB n) := by
  obtain ⟨fI, cda, cc, XT⟩ := G.x
  refine F.okX scPlanI (fun vs H Q E h => ?_) (fun cdv A outer s H vs Q E hr h => ?_)
  · obtain ⟨_, _, _, _, _, _, rfl, _⟩ := h
    rfl
  · obtain ⟨a, dx, v, e, tss, en, rfl, ha, ht, hz, he, hez, q1, q2⟩ := h
    refine ⟨_, pss_cons (ps_set (i := 3) scPlanI.nd rfl (Or.inl rfl) (pe_call GS hr (by rfl) NS.g NS.F.kp NS.b .nil pass0 (by exact (pa_cons (pv 1) (pa_cons (pv 2) pa_nil)))))
      (pss_cons (ps_if (pt_cmpR op_notN (pv 3) pe_non (by rfl)) (pss_one (ps_raise rfl (takes_of rfl rfl rfl rfl)
        (pmk_x (ok := okTup) (cond := isTupV) XT (ir_plan XT T.tup) (fun _ _ _ k z => okTup_keeps k z) (fun _ _ _ _ _ _ I r c => okTup_of I r c) hr G.mgB (by exact (pa_cons (pv 3) pa_nil)) rfl))) pss_nil)
      (pss_cons (ps_fld (pv 0) (pe_callTy call_tuple_of (by rfl) T.tup (by decide +kernel) (by exact (pa_cons (pv 1) pa_nil))) rfl)
      (pss_one (ps_fld (pv 0) (pv 2) rfl)))), ?_⟩
    refine ⟨_, rfl, _, rfl, _, _, tss, en, rfl, ht, hz, he, hez, fun r H1 s1 nt => ?_⟩
    refine ⟨_, rfl, rfl, _, rfl, ite_both (fun hb => ?_) (fun _ => ?_)⟩
    · obtain ⟨pr, ys, rfl, hpr, hl⟩ := nt.notN hb
      exact ⟨_, rfl, _, rfl, ⟨pr, ys, rfl, hpr⟩, fun d hd => q2 _ _ (Kp.of (s1.trans (same_upd hd)))⟩
    · obtain ⟨p, xs, rfl, hp, sx⟩ := ht
      have ha1 := s1 _ _ ha
      rcases hp with hp | hp
      · refine ⟨_, rfl, p, xs, rfl, .inl ⟨SqL.of (s1 _ _ hp), fun u hu => ?_⟩⟩
        have s2 := s1.trans (same_upd (o := .tup xs) hu)
        refine ⟨_, rfl, a, CP, dx, [], rfl, s2 _ _ ha, G.cl, G.n1, (by show 0 < 1000; decide), ?_⟩
        refine ⟨_, rfl, _, rfl, a, CP, dx, _, rfl, upd_same, G.cl, G.n2, (by show 1 < 1000; decide), ?_⟩
        exact q1 _ (((Kp.of s2).trans Kp.upd).trans Kp.upd)
      · refine ⟨_, rfl, p, xs, rfl, .inr ⟨SqT.of (s1 _ _ hp), ?_⟩⟩
        refine ⟨_, rfl, a, CP, dx, [], rfl, ha1, G.cl, G.n1, (by show 0 < 1000; decide), ?_⟩
        refine ⟨_, rfl, _, rfl, a, CP, dx, _, rfl, upd_same, G.cl, G.n2, (by show 1 < 1000; decide), ?_⟩
        exact q1 _ (((Kp.of s1).trans Kp.upd).trans Kp.upd)
end
end K10
set_option maxHeartbeats 4000000
namespace K10
open PySem PySem.Spec PyProof.Rows L2
open SX (S S_len S_inj S_cat)
abbrev sRShape : Stmt := tp 31
abbrev sRTable : Stmt := tp 32
abbrev sRPlan : Stmt := tp 33
section
variable {w : World} {K : PySem.W.Frag} {mg : Str → Option Value} {base : Heap} {CL CT CTab CP CB : Addr}
/-- .. and the making -/
structure LM3 (w : World) (K : PySem.W.Frag) (mg : Str → Option Value) (base : Heap) (CL CT : Addr) : Prop where
  M2 : LM2 w K mg base CL CT
  mkL : ∃ f fd, Mk K CL f ∧ Binds K fd ["self", "text"] [] ∧ FnOk PP w K mg base CX0 3 f fd ["self", "text"] (spLI CL)
/-- what a reader promises: f tells the first wrong place; behind a right text the two other errors may come -/
def spRd (CT CTab CB : Addr) (f : Cs → Option (Option Nat)) : Sp := fun vs H Q E => ∃ (cs : Cs) (e : Option Nat), vs = [.str (S cs)] ∧ cs.length ≤ 16000000 ∧ f cs = some e ∧
  (e = none → (∀ v H', Same H H' → Q v H') ∧ ∀ d H', Same H H' → E (.ref CTab) (some d) H' ∧ E (.ref CB) (some d) H') ∧
  (∀ p, e = some p → ∀ d H', Same H H' → H' d = some (.xd [("place", .int (p : Nat))]) → E (.ref CT) (some d) H')
theorem made_lexer {H H1 : Hp} {x dx : Addr} {C : Addr} (hx : H x = none) (hdx : H dx = none) (hn : dx ≠ x) (k : Kp x (upd (upd H dx (.own x)) x (.ins C dx [])) H1) : Same H H1 := fun b o e => by
  have n1 : b ≠ x := ne_of_none e hx
  have n2 : b ≠ dx := ne_of_none e hdx
  exact k _ _ (by rw [upd_ne n1, upd_ne n2]; exact e) n1
theorem kp_made {H H1 : Hp} {x dx : Addr} {C : Addr} (hx : H x = none) (hdx : H dx = none) (k : Kp x (upd (upd H dx (.own x)) x (.ins C dx [])) H1) : Kp x H H1 := fun b o e n => by
  have n2 : b ≠ dx := ne_of_none e hdx
  exact k _ _ (by rw [upd_ne n, upd_ne n2]; exact e) n
theorem errOf_none {α : Type} {r : Res α} (h : errOf r = some none) : ∃ a, r = some (.ok a) := by
  match r, h with
  | some (.ok a), _ => exact ⟨a, rfl⟩
theorem scRShape : FnScope ["text", "lexer", "found"] ["text"] (defScope sRShape) := ⟨rfl, rfl, rfl, by decide +kernel, rfl, by decide +kernel, by decide +kernel⟩
theorem ok_rshape {f fS : Addr} {fd fdS : FuncData} {D : Nat} (N : Fn K mg "read_shape" sRShape f fd ["text"]) (M3 : LM3 w K mg base CL CT) (NS : Fn K mg "take_shape" sShape fS fdS ["lexer"]) :
    FnOk PP w K mg base (L2.CX PP w) (D + 5) f fd ["text"] (spRd CT CTab CB fun cs => errOf (readShape cs D)) := by
  have GS := ok_shape NS M3.M2 D
  obtain ⟨f0, fd0, m0, b0, G0⟩ := M3.mkL
  obtain ⟨f4, fd4, m4, b4, G4⟩ := M3.M2.finish
  have T := M3.M2.M.T
  have TG := M3.M2.M.TG
  refine N.F.okX scRShape (fun vs H Q E h => ?_) (fun cdv A outer s H vs Q E hr h => ?_)
  · obtain ⟨_, _, rfl, _⟩ := h
    rfl
  · obtain ⟨cs, e, rfl, hz, he, q1, q2⟩ := h
    have px : ∀ {X : Cx}, Takes X (fun cls d _ H => E cls d H) → Passes (L2.CX X.prog X.w) X E := fun tk => passes_call (E := E) (W := fun cls d _ H => E cls d H) tk fun _ _ _ _ h => h
    refine ⟨_, pss_cons (ps_set (i := 1) scRShape.nd rfl (Or.inl rfl) (pe_make m0 G0 (hr.mono (by omega)) (by rfl) T.mgL b0 .nil pass0 (by exact (pa_cons (pv 0) pa_nil))))
      (pss_cons (ps_set (i := 2) scRShape.nd rfl (Or.inl rfl) (pe_call GS hr (by rfl) NS.g NS.F.kp NS.b .nil (px (takes_of rfl rfl rfl rfl)) (by exact (pa_cons (pv 1) pa_nil))))
      (pss_cons (ps_expr (pe_meth0 (pv 1) T.cl m4 G4 (hr.mono (by omega)) b4 .nil (px (takes_of rfl rfl rfl rfl))))
      (pss_one (ps_ret (pv 2))))), ?_⟩
    have z0 : sizeLine = 16777216 := sizeLine_eq
    refine ⟨_, rfl, fun x dx hx hdx hn => ?_⟩
    refine ⟨x, dx, cs, rfl, upd_same, by omega, fun H1 x1 k1 => ⟨rfl, ?_⟩⟩
    have k01 := kp_made hx hdx k1
    have l0 : LxOk cs (lexAt cs 0) := lexAt_ok (Nat.zero_le _)
    have he : errOf (readShape cs D) = some e := he
    unfold readShape at he
    cases e1 : takeShape cs D (lexAt cs 0) with
    | none => rw [e1] at he; cases he
    | some r1 =>
      rw [e1] at he
      refine ⟨_, rfl, x, cs, _, r1, rfl, x1, l0, by omega, e1, fun t L1 er H2 v x2 k2 sv => ?_, fun p er H2 d hd => ?_⟩
      · subst er
        have k02 := k01.trans k2
        obtain ⟨dx2, t2, hp2, _⟩ := id x2
        refine ⟨_, rfl, x, dx2, _, rfl, hp2, lf_no _ _ (by decide +kernel) (by decide +kernel), x, cs, L1, rfl, x2, fun hf => ?_, fun hf H3 d hd => ?_⟩
        · have he' : errOf (fin L1 t) = some e := he
          unfold fin at he'
          rw [if_pos hf] at he'
          cases he'
          exact ⟨_, rfl, (q1 rfl).1 _ _ (k02.same hx)⟩
        · have he' : errOf (fin L1 t) = some e := he
          unfold fin at he'
          rw [if_neg hf] at he'
          cases he'
          exact q2 _ rfl _ _ ((k02.trans hd.2.1).same hx) hd.1
      · subst er
        cases he
        exact q2 _ rfl _ _ ((k01.trans hd.2.1).same hx) hd.1
theorem scRTable : FnScope ["text", "lexer", "found", "path"] ["text"] (defScope sRTable) := ⟨rfl, rfl, rfl, by decide +kernel, rfl, by decide +kernel, by decide +kernel⟩
/-- the class of wrong tables -/
structure GTab (w : World) (K : PySem.W.Frag) (mg : Str → Option Value) (CTab : Addr) : Prop where
  mgT : mg "BadTable" = some (.ref CTab)
  x : ∃ fI cda cc, K10E.XT PP K mg sTabI "BadTable.__init__" "path" "path" CTab fI cda cc
theorem ok_rtable {f fS fZ : Addr} {fd fdS fdZ : FuncData} {D : Nat} (N : Fn K mg "read_table" sRTable f fd ["text"]) (M3 : LM3 w K mg base CL CT) (GX : GTab w K mg CTab) (NS : Fn K mg "take_table" sTable fS fdS ["lexer"]) (NZ : Fn K mg "wrong_sizes" sWSizes fZ fdZ ["shapes"])
    (GS : FnOk PP w K mg base (L2.CX PP w) (D + 5) fS fdS ["lexer"] (spRead CL CT (fun cs L => takeTable cs D (cs.length + 1) L) TabV)) (GZ : FnOk PP w K mg base CX0 2 fZ fdZ ["shapes"] spSizes) :
    FnOk PP w K mg base (L2.CX PP w) (D + 6) f fd ["text"] (spRd CT CTab CB fun cs => errOf (readTable cs D (cs.length + 1))) := by
  obtain ⟨f0, fd0, m0, b0, G0⟩ := M3.mkL
  obtain ⟨f4, fd4, m4, b4, G4⟩ := M3.M2.finish
  obtain ⟨fI, cda, cc, XT⟩ := GX.x
  have T := M3.M2.M.T
  have TG := M3.M2.M.TG
  refine N.F.okX scRTable (fun vs H Q E h => ?_) (fun cdv A outer s H vs Q E hr h => ?_)
  · obtain ⟨_, _, rfl, _⟩ := h
    rfl
  · obtain ⟨cs, e, rfl, hz, he, q1, q2⟩ := h
    have px : ∀ {X : Cx}, Takes X (fun cls d _ H => E cls d H) → Passes (L2.CX X.prog X.w) X E := fun tk => passes_call (E := E) (W := fun cls d _ H => E cls d H) tk fun _ _ _ _ h => h
    refine ⟨_, pss_cons (ps_set (i := 1) scRTable.nd rfl (Or.inl rfl) (pe_make m0 G0 (hr.mono (by omega)) (by rfl) T.mgL b0 .nil pass0 (by exact (pa_cons (pv 0) pa_nil))))
      (pss_cons (ps_set (i := 2) scRTable.nd rfl (Or.inl rfl) (pe_call GS hr (by rfl) NS.g NS.F.kp NS.b .nil (px (takes_of rfl rfl rfl rfl)) (by exact (pa_cons (pv 1) pa_nil))))
      (pss_cons (ps_expr (pe_meth0 (pv 1) T.cl m4 G4 (hr.mono (by omega)) b4 .nil (px (takes_of rfl rfl rfl rfl))))
      (pss_cons (ps_set (i := 3) scRTable.nd rfl (Or.inl rfl) (pe_call GZ (hr.mono (by omega)) (by rfl) NZ.g NZ.F.kp NZ.b .nil pass0 (by exact (pa_cons (pv 2) pa_nil))))
      (pss_cons (ps_if (pt_cmpR op_notN (pv 3) pe_non (by rfl)) (pss_one (ps_raise rfl (takes_of rfl rfl rfl rfl)
        (pmk_x (ok := okTup) (cond := isTupV) XT (ir_tab XT TG.tup) (fun _ _ _ k z => okTup_keeps k z) (fun _ _ _ _ _ _ I r c => okTup_of I r c) hr GX.mgT (by exact (pa_cons (pv 3) pa_nil)) rfl))) pss_nil)
      (pss_one (ps_ret (pv 2))))))), ?_⟩
    have z0 : sizeLine = 16777216 := sizeLine_eq
    refine ⟨_, rfl, fun x dx hx hdx hn => ?_⟩
    refine ⟨x, dx, cs, rfl, upd_same, by omega, fun H1 x1 k1 => ⟨rfl, ?_⟩⟩
    have k01 := kp_made hx hdx k1
    have l0 : LxOk cs (lexAt cs 0) := lexAt_ok (Nat.zero_le _)
    have he : errOf (readTable cs D (cs.length + 1)) = some e := he
    unfold readTable at he
    cases e1 : takeTable cs D (cs.length + 1) (lexAt cs 0) with
    | none => rw [e1] at he; cases he
    | some r1 =>
      rw [e1] at he
      refine ⟨_, rfl, x, cs, _, r1, rfl, x1, l0, by omega, e1, fun t L1 er H2 v x2 k2 sv => ?_, fun p er H2 d hd => ?_⟩
      · subst er
        have k02 := k01.trans k2
        obtain ⟨dx2, t2, hp2, _⟩ := id x2
        refine ⟨_, rfl, x, dx2, _, rfl, hp2, lf_no _ _ (by decide +kernel) (by decide +kernel), x, cs, L1, rfl, x2, fun hf => ?_, fun hf H3 d hd => ?_⟩
        · have he' : errOf (fin L1 t) = some e := he
          unfold fin at he'
          rw [if_pos hf] at he'
          cases he'
          refine ⟨_, rfl, v, t, D, rfl, sv, fun t' ht' => ?_, fun r H3 s3 nt => ?_⟩
          · obtain ⟨h1, h2⟩ := takeTable_sz l0 e1 t' ht'
            exact ⟨h1, by omega⟩
          · have s03 := (k02.same hx).trans s3
            refine ⟨_, rfl, rfl, _, rfl, ite_both (fun hb => ?_) (fun _ => ?_)⟩
            · obtain ⟨pr, ys, rfl, hpr, hl⟩ := nt.notN hb
              exact ⟨_, rfl, _, rfl, ⟨pr, ys, rfl, hpr⟩, fun d hd => ((q1 rfl).2 _ _ (s03.trans (same_upd hd))).1⟩
            · exact ⟨_, rfl, (q1 rfl).1 _ _ s03⟩
        · have he' : errOf (fin L1 t) = some e := he
          unfold fin at he'
          rw [if_neg hf] at he'
          cases he'
          exact q2 _ rfl _ _ ((k02.trans hd.2.1).same hx) hd.1
      · subst er
        cases he
        exact q2 _ rfl _ _ ((k01.trans hd.2.1).same hx) hd.1
end
end K10
set_option maxHeartbeats 4000000
namespace K10
open PySem PySem.Spec PyProof.Rows L2
open SX (S S_len S_inj S_cat)
theorem Kp2.both {a l : Addr} {H H' : Hp} (x : Kp2 a l H H') (ha : H a = none) (hl : H l = none) : Same H H' := fun b o e => x b o e (ne_of_none e ha) (ne_of_none e hl)
theorem ta_of {t : TA} {σ : L2.St} {H : Hp} {Q : List V → Hp → Prop} (R : List V → Hp → Prop) (h1 : ∀ Q' : List V → Hp → Prop, (∀ vs H', R vs H' → Q' vs H') → t σ H Q') (h2 : ∀ vs H', R vs H' → Q vs H') : t σ H Q := h1 Q h2
theorem takeTables_step {cs : Cs} {D n m : Nat} {L : Lx} {acc : List (List Sh)} {r : Except Nat (List (List Sh) × Lx)} (e : L.s = wTable) (h : takeTables cs D n (m + 1) L acc = some r) :
    ∃ r1, takeTable cs D n L = some r1 ∧ ((∃ p, r1 = .error p ∧ r = .error p) ∨ ∃ t L1, r1 = .ok (t, L1) ∧ takeTables cs D n m L1 (acc ++ [t]) = some r) := by
  unfold takeTables at h
  rw [if_pos e] at h
  cases h1 : takeTable cs D n L with
  | none => rw [h1] at h; cases h
  | some r1 =>
    rw [h1] at h
    cases r1 with
    | error p => cases h; exact ⟨_, rfl, .inl ⟨p, rfl, rfl⟩⟩
    | ok x => exact ⟨_, rfl, .inr ⟨x.1, x.2, rfl, h⟩⟩
section
variable {w : World} {K : PySem.W.Frag} {mg : Str → Option Value} {base : Heap} {CL CT CTab CP CB : Addr}
theorem scRPlan : FnScope ["text", "lexer", "tables", "end", "part", "some", "k", "table", "path"] ["text"] (defScope sRPlan) := ⟨rfl, rfl, rfl, by decide +kernel, rfl, by decide +kernel, by decide +kernel⟩
theorem ok_rplan {f fS fE fZ : Addr} {fd fdS fdE fdZ : FuncData} {D : Nat} (N : Fn K mg "read_plan" sRPlan f fd ["text"]) (M3 : LM3 w K mg base CL CT) (GX : GP w K mg CP CB) (NS : Fn K mg "take_table" sTable fS fdS ["lexer"]) (NE : Fn K mg "take_end" sEnd fE fdE ["lexer"]) (NZ : Fn K mg "wrong_sizes" sWSizes fZ fdZ ["shapes"])
    (GS : FnOk PP w K mg base (L2.CX PP w) (D + 5) fS fdS ["lexer"] (spRead CL CT (fun cs L => takeTable cs D (cs.length + 1) L) TabV)) (GE : FnOk PP w K mg base (L2.CX PP w) (D + 6) fE fdE ["lexer"] (spRead CL CT (fun cs L => takeEnd cs D (cs.length + 1) L) EndV)) (GZ : FnOk PP w K mg base CX0 2 fZ fdZ ["shapes"] spSizes)
    (GP' : ∃ f fd, Mk K CP f ∧ Binds K fd ["self", "tables", "end"] [] ∧ FnOk PP w K mg base (L2.CX PP w) (D + 4) f fd ["self", "tables", "end"] (spPlanI CP CB D)) :
    FnOk PP w K mg base (L2.CX PP w) (D + 7) f fd ["text"] (spRd CT CTab CB fun cs => errOf (readPlan cs D (cs.length + 1))) := by
  obtain ⟨f0, fd0, m0, b0, G0⟩ := M3.mkL
  obtain ⟨f1, fd1, m1, b1, G1⟩ := M3.M2.M.isN
  obtain ⟨f3, fd3, m3, b3, G3⟩ := M3.M2.take
  obtain ⟨f4, fd4, m4, b4, G4⟩ := M3.M2.finish
  obtain ⟨f5, fd5, m5, b5, G5⟩ := GP'
  obtain ⟨fI, cda, cc, XT⟩ := GX.x
  have T := M3.M2.M.T
  have TG := M3.M2.M.TG
  refine N.F.okX scRPlan (fun vs H Q E h => ?_) (fun cdv A outer s H vs Q E hr h => ?_)
  · obtain ⟨_, _, rfl, _⟩ := h
    rfl
  · obtain ⟨cs, e, rfl, hz, he, q1, q2⟩ := h
    have px : ∀ {X : Cx}, Takes X (fun cls d _ H => E cls d H) → Passes (L2.CX X.prog X.w) X E := fun tk => passes_call (E := E) (W := fun cls d _ H => E cls d H) tk fun _ _ _ _ h => h
    refine ⟨_, pss_cons (ps_set (i := 1) scRPlan.nd rfl (Or.inl rfl) (pe_make m0 G0 (hr.mono (by omega)) (by rfl) T.mgL b0 .nil pass0 (by exact (pa_cons (pv 0) pa_nil))))
      (pss_cons (ps_expr (pe_meth (pv 1) T.cl m3 G3 (hr.mono (by omega)) b3 .nil (px (takes_of rfl rfl rfl rfl)) (by exact (pa_cons pe_str pa_nil))))
      (pss_cons (ps_expr (pe_meth (pv 1) T.cl m3 G3 (hr.mono (by omega)) b3 .nil (px (takes_of rfl rfl rfl rfl)) (by exact (pa_cons pe_str pa_nil))))
      (pss_cons (ps_set (i := 2) scRPlan.nd rfl (Or.inl rfl) (pe_lst pa_nil))
      (pss_cons (ps_while (passes_of rfl) (pt_val (pe_meth (pv 1) T.cl m1 G1 (hr.mono (by omega)) b1 .nil pass0 (by exact (pa_cons pe_str pa_nil))))
          (pss_one (ps_expr (pe_bm PySem.F.plainAttrs_list PySem.F.slot_list_append PySem.F.type_list_append mt_append (pv 2) (by exact (pa_cons (pe_call GS (hr.mono (by omega)) (by rfl) NS.g NS.F.kp NS.b .nil (px (takes_of rfl rfl rfl rfl)) (by exact (pa_cons (pv 1) pa_nil))) pa_nil))))))
      (pss_cons (ps_set (i := 3) scRPlan.nd rfl (Or.inl rfl) (pe_call GE hr (by rfl) NE.g NE.F.kp NE.b .nil (px (takes_of rfl rfl rfl rfl)) (by exact (pa_cons (pv 1) pa_nil))))
      (pss_cons (ps_expr (pe_meth (pv 1) T.cl m3 G3 (hr.mono (by omega)) b3 .nil (px (takes_of rfl rfl rfl rfl)) (by exact (pa_cons pe_str pa_nil))))
      (pss_cons (ps_expr (pe_meth0 (pv 1) T.cl m4 G4 (hr.mono (by omega)) b4 .nil (px (takes_of rfl rfl rfl rfl))))
      (pss_cons (ps_for (passes_of rfl) rfl (pi_enumT (by rfl) TG.enum (by exact (pa_cons (pe_tup (pa_cons (pv 2) (pa_cons (pe_ifExp (pt_val (pe_callB call_isi (by rfl) TG.isi (by decide +kernel) (pa_cons (pv 3) (pa_cons (pe_bltn (v := .ty "str") (by rfl) TG.str (by decide +kernel) rfl) pa_nil)))) (pe_tup pa_nil) (pv 3)) pa_nil))) pa_nil)))
          (pg_tup rfl (pgs_cons (pg_name (i := 4) scRPlan.nd rfl (Or.inl rfl)) (pgs_cons (pg_name (i := 5) scRPlan.nd rfl (Or.inl rfl)) pgs_nil)))
          (pss_one (ps_for (passes_of rfl) rfl (pi_or (pi_enum (by rfl) TG.enum (pa_cons (pv 5) pa_nil)) (pi_enumT (by rfl) TG.enum (pa_cons (pv 5) pa_nil))) (pg_tup rfl (pgs_cons (pg_name (i := 6) scRPlan.nd rfl (Or.inl rfl)) (pgs_cons (pg_name (i := 7) scRPlan.nd rfl (Or.inl rfl)) pgs_nil)))
            (pss_cons (ps_set (i := 8) scRPlan.nd rfl (Or.inl rfl) (pe_call GZ (hr.mono (by omega)) (by rfl) NZ.g NZ.F.kp NZ.b .nil pass0 (by exact (pa_cons (pv 7) pa_nil))))
            (pss_one (ps_if (pt_cmpR op_notN (pv 8) pe_non (by rfl)) (pss_one (ps_raise rfl (takes_of rfl rfl rfl rfl)
              (pmk_x (ok := okTup) (cond := isTupV) XT (ir_plan XT TG.tup) (fun _ _ _ k z => okTup_keeps k z) (fun _ _ _ _ _ _ I r c => okTup_of I r c) hr GX.mgB
                (by exact (pa_cons (pe_tup (pa_cons (pv 4) (pa_cons (pv 6) (StX.pa_star (pv 8) pa_nil)))) pa_nil)) rfl))) pss_nil))))))
      (pss_one (ps_ret (pe_make m5 G5 (hr.mono (by omega)) (by rfl) GX.mgP b5 .nil (px (takes_of rfl rfl rfl rfl)) (by exact (pa_cons (pv 2) (pa_cons (pv 3) pa_nil)))))))))))))), ?_⟩
    have z0 : sizeLine = 16777216 := sizeLine_eq
    refine ⟨_, rfl, fun x dx hx hdx hn => ?_⟩
    refine ⟨x, dx, cs, rfl, upd_same, by omega, fun H1 x1 k1 => ⟨rfl, ?_⟩⟩
    have k01 := kp_made hx hdx k1
    have l0 : LxOk cs (lexAt cs 0) := lexAt_ok (Nat.zero_le _)
    have he : errOf (readPlan cs D (cs.length + 1)) = some e := he
    unfold readPlan at he
    obtain ⟨dx1, t1, hp1, _⟩ := id x1
    have bad : ∀ {H1 H' : Hp} {d : Addr} {p : Nat}, Kp x H H1 → ErrAt H1 H' x d p → e = some p → E (.ref CT) (some d) H' := fun k hd ee => q2 _ ee _ _ ((k.trans hd.2.1).same hx) hd.1
    refine ⟨_, rfl, x, dx1, _, rfl, hp1, lf_no _ _ (by decide +kernel) (by decide +kernel), x, cs, wPlan, _, by rw [s_plan]; rfl, x1, l0, by omega, fun e2 H2 x2 k2 => ?_, fun e2 H' d hd => ?_⟩
    · rw [tk_yes e2] at he
      have l1 := next_ok l0
      obtain ⟨dx2, t2, hp2, _⟩ := id x2
      have k02 := k01.trans k2
      refine ⟨_, rfl, x, dx2, _, rfl, hp2, lf_no _ _ (by decide +kernel) (by decide +kernel), x, cs, [123], _, by rw [s_lb]; rfl, x2, l1, by omega, fun e3 H3 x3 k3 => ?_, fun e3 H' d hd => ?_⟩
      · rw [tk_yes e3] at he
        have l2 := next_ok l1
        have k03 := k02.trans k3
        refine ⟨by show 0 ≤ sizeLine; omega, fun l hl => ?_⟩
        have hlx : l ≠ x := fun z => by
          obtain ⟨o, ho⟩ := x3.there
          rw [z, ho] at hl
          cases hl
        have hl0 : H l = none := by
          cases z : H l with
          | none => rfl
          | some o =>
            rw [k03 _ _ z hlx] at hl
            cases hl
        cases er1 : takeTables cs D (cs.length + 1) (cs.length + 1) (nextL cs (nextL cs (lexAt cs 0))) [] with
        | none => rw [er1] at he; cases he
        | some r1 =>
          rw [er1] at he
          refine ⟨fun m σ H' => ∃ L' acc vs, σ = [some (.str (S cs)), some (.ref x), some (.ref l), none, none, none, none, none, none] ∧ LxAt CL H' x cs L' ∧ LxOk cs L' ∧ H' l = some (.lst vs) ∧ TabVs H' vs acc ∧ Kp2 x l H H' ∧ acc.length + m ≤ cs.length + 1 ∧ TabsOk D cs.length acc ∧ takeTables cs D (cs.length + 1) m L' acc = some r1,
            ⟨_, _, [], [], rfl, x3.upd hl, l2, upd_same, .nil, ((k03.trans (Kp.of (same_upd hl))).two), by simp, (by intro _ z; cases z), er1⟩, ?_⟩
          rintro m σ H4 ⟨L4, acc, vs, rfl, x4, l4, h4, sv, k4, hm, tok, e4⟩
          obtain ⟨m', rfl⟩ : ∃ m', m = m' + 1 := by
            cases m with
            | zero => unfold takeTables at e4; cases e4
            | succ m' => exact ⟨m', rfl⟩
          obtain ⟨dx4, t4, hp4, _⟩ := id x4
          have vlen := sv.len
          refine ⟨_, rfl, x, dx4, _, rfl, hp4, lf_no _ _ (by decide +kernel) (by decide +kernel), x, cs, wTable, L4, by rw [s_table]; rfl, x4, _, rfl, ?_⟩
          by_cases ht : L4.s = wTable
          · refine if_true_of (decide_eq_true ht) ?_
            refine ⟨fun σ' H' => ∃ m'', m'' < m' + 1 ∧ ∃ L' acc vs, σ' = [some (.str (S cs)), some (.ref x), some (.ref l), none, none, none, none, none, none] ∧ LxAt CL H' x cs L' ∧ LxOk cs L' ∧ H' l = some (.lst vs) ∧ TabVs H' vs acc ∧ Kp2 x l H H' ∧ acc.length + m'' ≤ cs.length + 1 ∧ TabsOk D cs.length acc ∧ takeTables cs D (cs.length + 1) m'' L' acc = some r1, fun _ _ z => z, ?_⟩
            obtain ⟨r5, e5, h5⟩ := takeTables_step ht e4
            refine ⟨_, rfl, Or.inl ⟨rfl, _, Or.inl (Or.inl h4)⟩, _, rfl, x, cs, L4, r5, rfl, x4, l4, by omega, e5, fun ts L5 er5 H5 v x5 k5 sv5 => ?_, fun p er5 H' d hd => ?_⟩
            · subst er5
              rcases h5 with ⟨p, z, _⟩ | ⟨t', L5', z, h5⟩
              · cases z
              · cases z
                have h5l := k5 _ _ h4 hlx
                have l5 := (takeTable_lx l4 e5).1
                have k6 : Kp l H5 (upd H5 l (.lst (vs ++ [v]))) := Kp.upd
                have n5 := noTup_lst h5l
                refine ⟨l, vs, v, rfl, rfl, h5l, by omega, m', Nat.lt_succ_self _, L5, acc ++ [ts], vs ++ [v], rfl, x5.kp k6 hlx.symm fun t xs ht => n5.ne ht, l5, upd_same, TabVs.snoc (sv5.kp k6 n5) ((sv.kp k5 x4.noTup).kp k6 n5), (k4.trans k5.two).trans k6.two', by rw [List.length_append]; simp only [List.length_cons, List.length_nil]; omega, ?_, h5⟩
                intro t' ht'
                rcases List.mem_append.mp ht' with z | z
                · exact tok _ z
                · rw [List.mem_singleton.mp z]
                  exact takeTable_sz l4 e5
            · subst er5
              rcases h5 with ⟨p', z, z2⟩ | ⟨t', L5', z, h5⟩
              · cases z
                subst z2
                cases he
                exact q2 _ rfl _ _ ((k4.trans hd.2.1.two).both hx hl0) hd.1
              · cases z
          · refine if_false_of (decide_eq_false ht) ?_
            have e4' : r1 = .ok (acc, L4) := by
              unfold takeTables at e4
              rw [if_neg ht] at e4
              exact (Option.some.inj e4).symm
            subst e4'
            simp only at he
            cases e5 : takeEnd cs D (cs.length + 1) L4 with
            | none => rw [e5] at he; cases he
            | some r5 =>
              rw [e5] at he
              refine ⟨_, rfl, x, cs, L4, r5, rfl, x4, l4, by omega, e5, fun en L5 er5 H5 v x5 k5 sv5 => ?_, fun p er5 H' d hd => ?_⟩
              · subst er5
                simp only at he
                have l5 := takeEnd_lx l4 e5
                have h5l := k5 _ _ h4 hlx
                have sv5' := sv.kp k5 x4.noTup
                have k05 := k4.trans k5.two
                obtain ⟨dx5, t5, hp5, _⟩ := id x5
                refine ⟨_, rfl, x, dx5, _, rfl, hp5, lf_no _ _ (by decide +kernel) (by decide +kernel), x, cs, [125], _, by rw [s_rb]; rfl, x5, l5, by omega, fun e6 H6 x6 k6 => ?_, fun e6 H' d hd => ?_⟩
                · rw [tk_yes e6] at he
                  obtain ⟨dx6, t6, hp6, _⟩ := id x6
                  have k06 := k05.trans k6.two
                  refine ⟨_, rfl, x, dx6, _, rfl, hp6, lf_no _ _ (by decide +kernel) (by decide +kernel), x, cs, _, rfl, x6, fun hf => ?_, fun hf H7 d hd => ?_⟩
                  · unfold fin at he
                    rw [if_pos hf] at he
                    cases he
                    obtain ⟨qa, qb⟩ := q1 rfl
                    have s6 := k06.both hx hl0
                    have h6l := k6 _ _ h5l hlx
                    have n5 := x5.noTup
                    have sv6 := sv5'.kp k6 n5
                    have en6 : EndV H6 v en := by
                      cases en with
                      | left => exact sv5
                      | right => exact sv5
                      | round ts =>
                        obtain ⟨p, ws, ev, hp, r⟩ := sv5
                        exact ⟨p, ws, ev, k6 _ _ hp (n5.ne hp), r.kp k6 n5⟩
                    have eok := takeEnd_sz l4 e5
                    have t16 : TabsOk D 16000000 acc := fun ts h t ht => ⟨(tok ts h t ht).1, Nat.le_trans (tok ts h t ht).2 hz⟩
                    have e16 : EnOk D 16000000 en := by
                      cases en with
                      | left => trivial
                      | right => trivial
                      | round ts => exact fun ts' h t ht => ⟨(eok ts' h t ht).1, Nat.le_trans (eok ts' h t ht).2 hz⟩
                    have q0 : SeqTab H6 (.ref l) acc := ⟨l, vs, rfl, .inl h6l, sv6⟩
                    refine ⟨_, rfl, ?_⟩
                    refine ta_of (fun ws H7 => ∃ v2 tss2, ws = [v2] ∧ Same H6 H7 ∧ SeqTab H7 v2 tss2 ∧ TabsOk D 16000000 tss2) (fun Q' hQ => ?_) ?_
                    · cases en with
                      | left =>
                        have ev : v = .str (S wLeft) := en6
                        subst ev
                        refine ⟨_, rfl, _, _, _, _, true, rfl, .ty "str", .base (.str _), kit_ty (by decide +kernel), true, rfl, if_true_of rfl ?_⟩
                        refine ⟨by show 0 ≤ sizeLine; omega, fun u hu => hQ _ _ ⟨_, [], rfl, same_upd hu, ⟨u, [], rfl, .inr upd_same, .nil⟩, by intro _ z; cases z⟩⟩
                      | right =>
                        have ev : v = .str (S wRight) := en6
                        subst ev
                        refine ⟨_, rfl, _, _, _, _, true, rfl, .ty "str", .base (.str _), kit_ty (by decide +kernel), true, rfl, if_true_of rfl ?_⟩
                        refine ⟨by show 0 ≤ sizeLine; omega, fun u hu => hQ _ _ ⟨_, [], rfl, same_upd hu, ⟨u, [], rfl, .inr upd_same, .nil⟩, by intro _ z; cases z⟩⟩
                      | round ts =>
                        obtain ⟨pe, xe, rfl, hpe, se⟩ := en6
                        refine ⟨_, rfl, _, _, _, _, false, rfl, .ty "str", .base (.tup hpe), kit_ty (by decide +kernel), false, rfl, if_false_of rfl ?_⟩
                        exact ⟨_, rfl, hQ _ _ ⟨_, ts, rfl, Same.refl _, ⟨pe, xe, rfl, .inr hpe, se⟩, e16⟩⟩
                    · rintro ws H7 ⟨v2, tss2, rfl, s7, sq2, t2ok⟩
                      refine ⟨by show 2 ≤ sizeLine; omega, fun p0 hp0 => ?_⟩
                      have s8 := s7.trans (same_upd (o := .tup [.ref l, v2]) hp0)
                      have s08 := s6.trans s8
                      refine ⟨p0, [.ref l, v2], rfl, SqT.of upd_same, for_it walk_enumT (fun i σ H' => Same (upd H7 p0 (.tup [.ref l, v2])) H' ∧ ∃ r4 r5 r6 r7 r8, σ = [some (.str (S cs)), some (.ref x), some (.ref l), some v, r4, r5, r6, r7, r8]) ⟨Same.refl _, _, _, _, _, _, rfl⟩ (fun _ _ _ _ h => SqT.of (h.1 _ _ upd_same)) ?_ ?_⟩
                      · rintro i x' σ H9 H10 hi ⟨s9, r4, r5, r6, r7, r8, rfl⟩ ⟨t', y1, y2, rfl, ht', rfl, ea, eb⟩
                        cases ea
                        have s10 := s9.trans (same_upd (o := .tup [.int (i : Nat), y2]) ht')
                        obtain ⟨tss', sq', tok'⟩ : ∃ tss', SeqTab (upd H9 t' (.tup [.int (i : Nat), y2])) y2 tss' ∧ TabsOk D 16000000 tss' := by
                          match i, eb with
                          | 0, eb => cases eb; exact ⟨acc, q0.same (s8.trans s10), t16⟩
                          | 1, eb => cases eb; exact ⟨tss2, sq2.same ((same_upd (o := .tup [.ref l, v2]) hp0).trans s10), t2ok⟩
                          | i + 2, eb => cases eb
                        obtain ⟨p5, xs5, rfl, hp5', sx5⟩ := sq'
                        refine ⟨t', _, rfl, SqT.of upd_same, rfl, _, _, rfl, _, _, rfl, rfl, ?_⟩
                        refine enum_both (fun j σ H' => Same (upd H9 t' (.tup [.int (i : Nat), .ref p5])) H' ∧ ∃ r6 r7 r8, σ = [some (.str (S cs)), some (.ref x), some (.ref l), some v, some (.int (i : Nat)), some (.ref p5), r6, r7, r8]) hp5' rfl ⟨Same.refl _, _, _, _, rfl⟩ (fun _ _ _ _ h => h.1) ?_ ?_
                        · rintro j x'' σ H11 H12 hj ⟨s11, r6, r7, r8, rfl⟩ ⟨t'', z1, z2, rfl, ht'', rfl, ec, ed⟩
                          cases ec
                          have s12 := s11.trans (same_upd (o := .tup [.int (j : Nat), z2]) ht'')
                          obtain ⟨ts', m', hv2⟩ := (sx5.same s12).get ed
                          refine ⟨t'', _, rfl, SqT.of upd_same, rfl, _, _, rfl, _, _, rfl, rfl, ?_⟩
                          refine ⟨_, rfl, z2, ts', D, rfl, hv2, tok' _ m', fun r H13 s13 nt => ?_⟩
                          refine ⟨_, rfl, rfl, _, rfl, ite_both (fun hb => ?_) (fun _ => ?_)⟩
                          · obtain ⟨pr, ys, rfl, hpr, hl'⟩ := nt.notN hb
                            refine ⟨_, rfl, _, rfl, _, rfl, pr, ys, rfl, .inl (SqT.of hpr), by show (ys ++ []).length + 1 + 1 ≤ _; rw [List.append_nil]; omega, fun u hu => ?_⟩
                            refine ⟨_, rfl, ⟨u, _, rfl, upd_same⟩, fun d hd => (qb _ _ ?_).2⟩
                            exact (((s08.trans s10).trans (s12.trans s13)).trans (same_upd hu)).trans (same_upd hd)
                          · exact ⟨s12.trans s13, _, _, _, rfl⟩
                        · rintro σ H11 ⟨s11, r6, r7, r8, rfl⟩
                          exact ⟨s10.trans s11, _, _, _, _, _, rfl⟩
                      · rintro σ H9 ⟨s9, r4, r5, r6, r7, r8, rfl⟩
                        have s89 := s8.trans s9
                        refine ⟨_, rfl, _, rfl, fun y dy hy hdy hny => ?_⟩
                        have sy : Same H9 (upd (upd H9 dy (.own y)) y (.ins CP dy [])) := fun b o e => by
                          rw [upd_ne (ne_of_none e hy), upd_ne (ne_of_none e hdy)]
                          exact e
                        refine ⟨y, dy, _, _, acc, en, rfl, upd_same, q0.same (s89.trans sy), t16, en6.same (s89.trans sy), e16, fun H10 k10 => ⟨rfl, ?_⟩, fun d H10 k10 => (qb _ _ ?_).2⟩
                        · exact qa _ _ ((s6.trans s89).trans (made_lexer hy hdy hny k10))
                        · exact (s6.trans s89).trans (made_lexer hy hdy hny k10)
                  · unfold fin at he
                    rw [if_neg hf] at he
                    cases he
                    exact q2 _ rfl _ _ ((k06.trans hd.2.1.two).both hx hl0) hd.1
                · rw [tk_no e6] at he
                  cases he
                  exact q2 _ rfl _ _ ((k05.trans hd.2.1.two).both hx hl0) hd.1
              · subst er5
                cases he
                exact q2 _ rfl _ _ ((k4.trans hd.2.1.two).both hx hl0) hd.1
      · rw [tk_no e3] at he
        cases he
        exact bad k02 hd rfl
    · rw [tk_no e2] at he
      cases he
      exact bad k01 hd rfl
end
end K10
set_option maxHeartbeats 4000000
namespace K10
open PySem PySem.Spec PyProof.Rows L2
section
variable {X : Cx} {pins : List (Addr × Obj)} {σ : L2.St} {H : Hp} {s : Shared} {a : Addr} {B : Heap} {cls : Value} {d : Option Addr}
/-- an exception that a clause looks at -/
structure Down (X : Cx) (pins : List (Addr × Obj)) (σ : L2.St) (H : Hp) (a : Addr) (B : Heap) (cls : Value) (d : Option Addr) (s : Shared) : Prop where
  was : ∃ sI, Inv X pins σ H sI ∧ (∀ b o, sI.heap.get? b = some o → b ∉ frs X.stack → B.get? b = some o) ∧ sI.heap.UpToSlots s.heap ∧ s.os = sI.os
  bare : AllBare s.gens
  fly : HandSPX.FlyingZ B (X.env :: X.outer) a (Zc cls d) s.heap
  na : H a = none
  nL : a ≠ X.env.locals
  nF : a ∉ X.fs
theorem Down.inv (x : Down X pins σ H a B cls d s) : Inv X pins σ H s := by
  obtain ⟨sI, I, nb, up, os⟩ := x.was
  exact I.landed nb x.fly.1 up os x.bare
theorem up_push {h h' : Heap} {o : Obj} (u : h.UpToSlots h') : h.UpToSlots (h'.push o) := fun b ob e nf => by
  obtain ⟨sl, e'⟩ := u b ob e nf
  exact ⟨sl, Heap.get?_push_of_some _ e'⟩
/-- a new object -/
theorem Down.push (x : Down X pins σ H a B cls d s) (o : Obj) : Down X pins σ H a B cls d { s with heap := s.heap.push o } := by
  obtain ⟨⟨sI, I, nb, up, os⟩, bare, fly, na, nL, nF⟩ := x
  have k : ∀ b u, s.heap.get? b = some u → (s.heap.push o).get? b = some u := fun b u e => Heap.get?_push_of_some _ e
  refine ⟨⟨sI, I, nb, up_push up, os⟩, bare, ?_, na, nL, nF⟩
  obtain ⟨f1, f2, f3, oe, vs, T, oT, ts, g1, g2, g3, g4, g5, g6, g7, g8, g9⟩ := fly
  exact ⟨fun b u e => k _ _ (f1 b u e), f2, f3.of_keeps fun b u e _ => ⟨u, k _ _ e, rfl⟩, oe, vs, T, oT, ts, k _ _ g1, g2, g3, g4, g5, g6, k _ _ g7, g8, g9⟩
/-- it is looked at no more -/
theorem Down.off {Q : Unit → Shared → Prop} {A : Around} {E : Value → Shared → Prop} (x : Down X pins σ H a B cls d s) (h : ∀ s', Down X pins σ H a B cls d s' → Q () s') : wpAny (model X.prog X.w) A (setFlight (.ref a) none) Q E s := by
  obtain ⟨⟨sI, I, nb, up, os⟩, bare, fly, na, nL, nF⟩ := x
  exact HandSPX.lands_againZ fly fun h4 fl4 up4 => h { s with heap := h4 } ⟨⟨sI, I, nb, up.trans up4, os⟩, bare, fl4, na, nL, nF⟩
/-- within the clause's suite -/
theorem Down.suite (x : Down X pins σ H a B cls d s) : ∃ oe, s.heap.get? a = some oe ∧ Zc cls d oe ∧ (∃ vs, oe.data = .fields vs) ∧ Inv (X.suite a ((a, oe) :: (X.pn ++ pins))) [] σ H s := by
  obtain ⟨oe, vs, he, hz, hd⟩ := x.fly.there
  exact ⟨oe, he, hz, ⟨vs, hd⟩, x.inv.suite he hd x.na x.nL x.nF⟩
theorem Down.looks (x : Down X pins σ H a B cls d s) : PySem.W.Looks (model X.prog X.w) s.heap (typeOf (.ref a)) cls := by
  obtain ⟨oe, he, hz, _, _⟩ := x.suite
  intro A Q E s' k q
  exact wpAny_typeOf_ref (k _ _ he) (by rw [hz.1]; exact q)
/-- what the clauses do, told of the exception as it lies -/
def Caught (X : Cx) (hds : List ExceptHandler) (W : Ends → WX) : Prop := ∀ (D : Ends) (pins : List (Addr × Obj)) (σ : L2.St) (H : Hp) (a : Addr) (B : Heap) (cls : Value) (d : Option Addr) (s : Shared), Down X pins σ H a B cls d s → W D cls d σ H →
  wpAny (model X.prog X.w) X.A (handleBy (.ref a) X.env hds) (SP X pins D) X.xe s
theorem ps_try_w {body : List Stmt} {h₀ : ExceptHandler} {hds : List ExceptHandler} {pos : Pos} {tb : WX → TS} {W : Ends → WX} (hs : X.stack = X.env :: X.outer) (hf : X.env.frame = some X.env.locals)
    (hb : ∀ (W : WX) (pn : List (Addr × Obj)) (xe : Value → Shared → Prop), Takes (X.tr pn xe) W → PassesOwn (model X.prog X.w) X.A X.env xe → PSs (X.tr pn xe) body (tb W)) (hc : Caught X (h₀ :: hds) W) :
    PS X (.Try body (h₀ :: hds) [] [] pos) (fun D σ H => tb (W D) D σ H) := by
  refine ⟨fun pins s σ H D I h => wpAny_Try_except ?_⟩
  have ok := I.ok
  have fr : X.A.frames = some (X.env :: X.outer) := ok.frames.trans (congrArg some hs)
  have land : Takes (X.tr (X.pn ++ pins) fun e s₁ => wpAny (model X.prog X.w) X.A (noteFrame e X.env) (fun _ s₂ => wpAny (model X.prog X.w) X.A (setFlight e none) (fun _ s₃ => wpAny (model X.prog X.w) X.A (handleBy e X.env (h₀ :: hds)) (SP X pins D) X.xe s₃) X.xe s₂) X.xe s₁) (W D) := by
    rintro u s' ⟨a, B, sI, pins', σ', H', cls, d, rfl, J', nb, up, sky, na, os, ag, w⟩
    have J := J'.ofTry (pins := pins) ok
    rw [show (X.tr (X.pn ++ pins) _).stack = X.env :: X.outer from hs] at sky
    refine Sky.land Zc.steady fr hf sky fun h3 fl3 up3 => ?_
    obtain ⟨oe3, vs3, he3, hz3, hd3⟩ := fl3.there
    have nfr : a ∉ frs (X.env :: X.outer) := fun hm => by
      obtain ⟨_, o', e', hnf⟩ := fl3.2.2.1.mem hm
      rw [he3] at e'
      exact hnf vs3 (by rw [← Option.some.inj e']; exact hd3)
    refine hc D pins σ' H' a B cls d _ ⟨⟨sI, J, nb, up.trans up3, os⟩, ag, fl3, na, fun z => nfr ?_, fun hm => nfr ?_⟩ w
    · exact List.mem_filterMap.mpr ⟨X.env, List.Mem.head _, by rw [hf, z]⟩
    · obtain ⟨e, he, q⟩ := List.mem_filterMap.mp hm
      exact List.mem_filterMap.mpr ⟨e, List.Mem.tail _ he, q⟩
  refine wpAny_mono ((hb (W D) (X.pn ++ pins) _ land PassesOwn.looking).run [] s σ H D (I.toTry _) h) (fun f s1 hsp => ?_) fun _ _ he => he
  match f, hsp with
  | .next, ⟨σ', H', J', q⟩ => exact wpAny_execs_nil ⟨σ', H', J'.ofTry ok, q⟩
  | .brk, ⟨σ', H', J', q⟩ => exact ⟨σ', H', J'.ofTry ok, q⟩
  | .cont, ⟨σ', H', J', q⟩ => exact ⟨σ', H', J'.ofTry ok, q⟩
  | .ret u, ⟨v, σ', H', J', r, q⟩ => exact ⟨v, σ', H', J'.ofTry ok, r, q⟩
theorem caught_nil : Caught X [] (fun _ _ _ _ _ => False) := by
  intro D pins σ H a B cls d s x w
  exact w.elim
/-- the ends behind a clause with a name -/
def offName (i : Nat) (D : Ends) : Ends := { nx := fun σ H => D.nx (σ.set i none) H, rt := D.rt, bk := fun σ H => D.bk (σ.set i none) H, ct := fun σ H => D.ct (σ.set i none) H }
theorem caught_as {hds : List ExceptHandler} {W : Ends → WX} {x n : Str} {c : Value} {i : Nat} {suite : List Stmt} {b₀ : Stmt} {np pos' : Pos} {ts : Addr → Value → Option Addr → TS} (hN : X.N.Nodup) (hi : X.N[i]? = some n) (hln : X.env.kindOf n = some .local) (hg : Gl X x) (hm : X.mg x = some c)
    (hsu : ∀ (a : Addr) (oe : Obj) (cls : Value) (d : Option Addr) (pn : List (Addr × Obj)), Zc cls d oe → (∃ vs, oe.data = .fields vs) → PSs (X.suite a ((a, oe) :: pn)) (b₀ :: suite) (ts a cls d)) (hr : Caught X hds W) (hdb : (x == ("__debug__" : Str)) = false := by decide) :
    Caught X (.ExceptHandler (some (.Name x np)) (some n) (b₀ :: suite) pos' :: hds) (fun D cls d σ H => ∃ b, PySem.W.exmOne X.K cls c = some b ∧ (b = true → ∀ a, H a = none → ts a cls d (offName i D) (σ.set i (some (.ref a))) H) ∧ (b = false → W D cls d σ H)) := by
  intro D pins σ H a B cls d s dn w
  obtain ⟨b, hb, yes, no⟩ := w
  obtain ⟨oe, he, hz, hv, S⟩ := dn.suite
  refine wpAny_handleBy_cons (codeAny_handlers_test (ld_glob (X := X.suite a ((a, oe) :: (X.pn ++ pins))) S hg hm ?_ hdb)) (fun q => by cases q)
  refine (PySem.W.exm_one (M := model X.prog X.w) dn.inv.kIn dn.looks hb).here ?_
  cases b with
  | false => exact hr D pins σ H a B cls d s dn (no rfl)
  | true =>
    refine codeAny_handlers_suite_as (dn.off fun s4 dn4 => ?_)
    obtain ⟨oe4, he4, hz4, hv4, S4⟩ := dn4.suite
    have ok := dn4.inv.ok
    refine store_ok (X := X.suite a ((a, oe4) :: (X.pn ++ pins))) (v := .ref a) S4 hN hi (.inl hln) rfl (fun s5 S5 => ?_) (.inr hln)
    refine wpAny_mono ((hsu a oe4 cls d (X.pn ++ pins) hz4 hv4).run [] s5 _ H _ S5 (yes rfl a dn.na)) (fun f s6 hsp => ?_) (fun _ _ z => False.elim z)
    match f, hsp with
    | .next, ⟨σ6, H6, S6, q6⟩ => exact gone_ok (S6.unsuite ok) hN hi hln fun s7 J7 => ⟨_, _, J7, q6⟩
    | .brk, ⟨σ6, H6, S6, q6⟩ => exact gone_ok (S6.unsuite ok) hN hi hln fun s7 J7 => ⟨_, _, J7, q6⟩
    | .cont, ⟨σ6, H6, S6, q6⟩ => exact gone_ok (S6.unsuite ok) hN hi hln fun s7 J7 => ⟨_, _, J7, q6⟩
    | .ret u, ⟨v6, σ6, H6, S6, r6, q6⟩ => exact gone_ok (S6.unsuite ok) hN hi hln fun s7 J7 => ⟨_, _, _, J7, r6, q6⟩
theorem caught_two {hds : List ExceptHandler} {W : Ends → WX} {x1 x2 : Str} {c1 c2 : Value} {suite : List Stmt} {b₀ : Stmt} {k0 : Nat} {p1 p2 p3 pos' : Pos} {ts : Addr → Value → Option Addr → TS} (hg1 : Gl X x1) (hm1 : X.mg x1 = some c1) (hg2 : Gl X x2) (hm2 : X.mg x2 = some c2)
    (hsu : ∀ (a : Addr) (oe : Obj) (cls : Value) (d : Option Addr) (pn : List (Addr × Obj)), Zc cls d oe → (∃ vs, oe.data = .fields vs) → PSs (X.suite a ((a, oe) :: pn)) (b₀ :: suite) (ts a cls d)) (hr : Caught X hds W) (hd1 : (x1 == ("__debug__" : Str)) = false := by decide) (hd2 : (x2 == ("__debug__" : Str)) = false := by decide) :
    Caught X (.ExceptHandler (some (.Tuple [.Name x1 p1, .Name x2 p2] k0 p3)) none (b₀ :: suite) pos' :: hds) (fun D cls d σ H => ∃ b, PySem.W.exmAny X.K cls [c1, c2] = some b ∧ (b = true → ∀ a, H a = none → ts a cls d D σ H) ∧ (b = false → W D cls d σ H)) := by
  intro D pins σ H a B cls d s dn w
  obtain ⟨b, hb, yes, no⟩ := w
  obtain ⟨oe, he, hz, hv, S⟩ := dn.suite
  have dp := dn.push { cls := .type "tuple", data := .seq [c1, c2].toArray }
  have hp : (s.heap.push { cls := .type "tuple", data := .seq [c1, c2].toArray }).get? s.heap.objs.size = some { cls := .type "tuple", data := .seq [c1, c2].toArray } := Heap.get?_push_size _ rfl
  refine wpAny_handleBy_cons (codeAny_handlers_test (wpAny_Tuple_spliced ?_)) (fun q => by cases q)
  show wpAny _ _ (spliced [(false, eval (.Name x1 p1) X.env), (false, eval (.Name x2 p2) X.env)]) _ _ _
  refine Calls.spliced_cons (ld_glob (X := X.suite a ((a, oe) :: (X.pn ++ pins))) S hg1 hm1 ?_ hd1)
  refine Calls.spliced_cons (ld_glob (X := X.suite a ((a, oe) :: (X.pn ++ pins))) S hg2 hm2 (Calls.spliced_nil ⟨by show 2 ≤ sizeLine; rw [sizeLine_eq]; decide, ?_⟩) hd2)
  refine (PySem.W.exm_tup2 (M := model X.prog X.w) dp.inv.kIn dp.looks hp hb).here ?_
  cases b with
  | false => exact hr D pins σ H a B cls d _ dp (no rfl)
  | true =>
    refine codeAny_handlers_suite (dp.off fun s4 dn4 => ?_)
    obtain ⟨oe4, he4, hz4, hv4, S4⟩ := dn4.suite
    have ok := dn4.inv.ok
    refine wpAny_mono ((hsu a oe4 cls d (X.pn ++ pins) hz4 hv4).run [] s4 _ H _ S4 (yes rfl a dn.na)) (fun f s6 hsp => ?_) (fun _ _ z => False.elim z)
    match f, hsp with
    | .next, ⟨σ6, H6, S6, q6⟩ => exact ⟨_, _, S6.unsuite ok, q6⟩
    | .brk, ⟨σ6, H6, S6, q6⟩ => exact ⟨_, _, S6.unsuite ok, q6⟩
    | .cont, ⟨σ6, H6, S6, q6⟩ => exact ⟨_, _, S6.unsuite ok, q6⟩
    | .ret u, ⟨v6, σ6, H6, S6, r6, q6⟩ => exact ⟨_, _, _, S6.unsuite ok, r6, q6⟩
end
end K10
set_option maxHeartbeats 4000000
namespace K10
open PySem PySem.Spec PyProof.Rows L2
open SX (S S_len S_inj S_cat)
/-- the forms of texts -/
inductive Fm where
  | sh | tab | pl
def fmS : Fm → Cs
  | .sh => [83, 72, 65, 80, 69, 49]
  | .tab => [84, 65, 66, 76, 69, 49]
  | .pl => [80, 76, 65, 78, 49]
/-- what reading tells -/
def readOf (D : Nat) : Fm → Cs → Option (Option Nat)
  | .sh, cs => errOf (readShape cs D)
  | .tab, cs => errOf (readTable cs D (cs.length + 1))
  | .pl, cs => errOf (readPlan cs D (cs.length + 1))
/-- .. in a list -/
def errL : Option Nat → List V
  | none => []
  | some p => [.int (p : Nat)]
theorem s_fsh : ("SHAPE1" : Str) = S (fmS .sh) := by decide +kernel
theorem s_ftab : ("TABLE1" : Str) = S (fmS .tab) := by decide +kernel
theorem s_fpl : ("PLAN1" : Str) = S (fmS .pl) := by decide +kernel
abbrev sTold : Stmt := tp 46
section
variable {X : Cx} {CX : CXT} {e fe : Expr} {es : List Expr} {tf te : TE} {t : TA} {pos : Pos} {E : L2.St → XK}
/-- f(e, ..), f an expression that gives a def -/
def tCallV (P : Program) (w : World) (K : PySem.W.Frag) (mg : Str → Option Value) (base : Heap) (A : Around) (CX : CXT) (E : L2.St → XK) (tf : TE) (t : TA) : TE := fun σ H Q => tf σ H fun y H1 => ∃ (f : Addr) (k : Nat) (fd : FuncData) (ps : List Str) (sp : Sp), y = .ref f ∧ FnOk P w K mg base CX k f fd ps sp ∧ Room k A ∧ Binds K fd ps [] ∧
  PySem.W.keepIn K (.ref f) = true ∧ t σ H1 fun vs H2 => sp vs H2 Q (E σ)
theorem pe_callV (hf : PE X fe tf) (hx : ∀ σ, PassesAt CX X σ (E σ)) (ha : PA X (e :: es) t)
    (ht : eval (.Call fe (e :: es) [] pos) X.env = (do callWith pos (← eval fe X.env) [] (backTo pos (starEach (e :: es) X.env)) (backToKw pos (keywordEach [] X.env))) := by rfl)
    (he : starEach (e :: es) X.env = (false, eval e X.env) :: starEach es X.env := by rfl) (hpl : (backTo pos (starEach es X.env)).any (·.1) = false := by rfl) : PE X (.Call fe (e :: es) [] pos) (tCallV X.prog X.w X.K X.mg X.base X.A CX E tf t) := by
  refine ⟨fun pins s σ H Q I h => Call_ (thn (hf.run pins s σ H _ I h) fun u s1 hh => ?_) ht⟩
  obtain ⟨y, H1, I1, ry, f, k, fd, ps, sp, rfl, F, hr, hb, hk, q⟩ := hh
  obtain rfl : u = Value.ref f := ry
  refine PySem.W.callWith_K (h₀ := X.base) I1.ok.mod.kin hk (thn (ha.run pos pins s1 σ H1 _ I1 q) fun us s2 ⟨vs, H2, I2, r, q2⟩ => ⟨I2.kIn, ?_⟩) he hpl
  exact run_fnS F hr hb (hx σ) I2 r q2
/-- the field of the exception that the suite holds -/
def tPlace (C : Addr) (a : Addr) (cls : Value) (d : Option Addr) (te : TE) : TE := fun σ H Q => te σ H fun x H1 => x = .ref a ∧ cls = .ref C ∧ ∃ (dd : Addr) (v : V), d = some dd ∧ H1 dd = some (.xd [(("place" : Str), v)]) ∧ Q v H1
/-- what the class of wrong texts is where it is caught -/
structure CG (K : PySem.W.Frag) (CT CTab CB : Addr) : Prop where
  ga : PySem.W.findIn K (.ref CT) "__getattribute__" = some (some (.builtin "BaseException.__getattribute__"))
  gg : PySem.W.findIn K (.ref CT) "__getattr__" = some none
  noN : PySem.W.findIn K (.ref CT) "place" = some none
  exC : PySem.W.subIn K (.ref CT) (.type "BaseException") = some true
  hdC : PySem.W.hasDictIn K CT = true
  e1 : PySem.W.exmOne K (.ref CT) (.ref CT) = some true
  e2 : PySem.W.exmOne K (.ref CTab) (.ref CT) = some false
  e3 : PySem.W.exmOne K (.ref CB) (.ref CT) = some false
  e4 : PySem.W.exmAny K (.ref CTab) [.ref CB, .ref CTab] = some true
  e5 : PySem.W.exmAny K (.ref CB) [.ref CB, .ref CTab] = some true
theorem pe_place {C CTab CB : Addr} {a : Addr} {oe : Obj} {cls : Value} {d : Option Addr} {pn : List (Addr × Obj)} (T : CG X.K C CTab CB) (hz : Zc cls d oe) (hf : ∃ vs, oe.data = .fields vs) (he : PE (X.suite a ((a, oe) :: pn)) e te)
    (hb : attributeBase e "place" X.env (eval e X.env) = eval e X.env := by rfl) : PE (X.suite a ((a, oe) :: pn)) (.Attribute e "place" pos) (tPlace C a cls d te) := by
  refine ⟨fun pins s σ H Q I h => attr_of hb (thn (he.run pins s σ H _ I h) fun u s1 hh => ?_)⟩
  obtain ⟨x, H1, I1, rx, rfl, rfl, dd, v, rfl, ea, q⟩ := hh
  obtain rfl : u = Value.ref a := rx
  have pa := (I1.pin (a, oe) (List.mem_append_left _ (List.Mem.head _))).1
  obtain ⟨vs, hd⟩ := hf
  obtain ⟨mA, hns, hr⟩ := (show ObjOk X.prog X.w H1 s1.heap dd (.xd [(("place" : Str), v)]) from I1.hok dd _ ea)
  obtain ⟨od, ho, hl⟩ := lookIn_ns hns
  have l : List.lookup ("place" : Str) [(("place" : Str), v)] = some v := by simp [List.lookup]
  obtain ⟨u, hu, ru⟩ := RelO.some_of (v := v) (o := mA "place") (by rw [← l]; exact hr "place")
  have nc : PySem.W.notCls oe = true := by unfold PySem.W.notCls; rw [hd] <;> rfl
  have J : PySem.W.InstAt s1.heap a oe C (some od) := ⟨pa, hz.1, nc, by rw [hz.2]; exact ho⟩
  exact HandSPX.exc_get I1.kIn J T.ga T.gg T.exC (PySem.W.findObj_own T.hdC T.noN rfl (by rw [hl, hu])) (handed_of ru) ⟨v, H1, I1.tok _, ru, q⟩
end
section
variable {w : World} {K : PySem.W.Frag} {mg : Str → Option Value} {base : Heap} {CL CT CTab CP CB : Addr}
theorem disp3 (v1 v2 v3 : V) : valV (mergeK [] [(.inr "SHAPE1", v1), (.inr "TABLE1", v2), (.inr "PLAN1", v3)]) (.inr "SHAPE1") = some v1 ∧ valV (mergeK [] [(.inr "SHAPE1", v1), (.inr "TABLE1", v2), (.inr "PLAN1", v3)]) (.inr "TABLE1") = some v2 ∧
    valV (mergeK [] [(.inr "SHAPE1", v1), (.inr "TABLE1", v2), (.inr "PLAN1", v3)]) (.inr "PLAN1") = some v3 := by
  have a : ¬ (("SHAPE1" : Str) = "TABLE1") := by decide +kernel
  have b : ¬ (("SHAPE1" : Str) = "PLAN1") := by decide +kernel
  have c : ¬ (("TABLE1" : Str) = "PLAN1") := by decide +kernel
  refine ⟨?_, ?_, ?_⟩ <;> simp [mergeK, putK, valV, a, b, c]
/-- the three readers -/
structure RD (w : World) (K : PySem.W.Frag) (mg : Str → Option Value) (base : Heap) (CT CTab CB : Addr) (D : Nat) : Prop where
  sh : ∃ f fd, mg "read_shape" = some (.ref f) ∧ PySem.W.keepIn K (.ref f) = true ∧ Binds K fd ["text"] [] ∧ FnOk PP w K mg base (L2.CX PP w) (D + 7) f fd ["text"] (spRd CT CTab CB (readOf D .sh))
  tab : ∃ f fd, mg "read_table" = some (.ref f) ∧ PySem.W.keepIn K (.ref f) = true ∧ Binds K fd ["text"] [] ∧ FnOk PP w K mg base (L2.CX PP w) (D + 7) f fd ["text"] (spRd CT CTab CB (readOf D .tab))
  pl : ∃ f fd, mg "read_plan" = some (.ref f) ∧ PySem.W.keepIn K (.ref f) = true ∧ Binds K fd ["text"] [] ∧ FnOk PP w K mg base (L2.CX PP w) (D + 7) f fd ["text"] (spRd CT CTab CB (readOf D .pl))
  gT : mg "BadText" = some (.ref CT)
  gTab : mg "BadTable" = some (.ref CTab)
  gB : mg "BadPlan" = some (.ref CB)
  cg : CG K CT CTab CB
def spTold (D : Nat) : Sp := fun vs H Q _ => ∃ (fm : Fm) (cs : Cs) (e : Option Nat), vs = [.str (S (fmS fm)), .str (S cs)] ∧ cs.length ≤ 16000000 ∧ readOf D fm cs = some e ∧ ∀ l H', Same H H' → H l = none → H' l = some (.lst (errL e)) → Q (.ref l) H'
theorem scTold : FnScope ["_law_form", "_law_text", "error"] ["_law_form", "_law_text"] (defScope sTold) := ⟨rfl, rfl, rfl, by decide +kernel, rfl, by decide +kernel, by decide +kernel⟩
theorem ok_told {f : Addr} {fd : FuncData} {D : Nat} (N : Fn K mg "_law_told" sTold f fd ["_law_form", "_law_text"]) (R : RD w K mg base CT CTab CB D) : FnOk PP w K mg base CX0 (D + 8) f fd ["_law_form", "_law_text"] (spTold D) := by
  obtain ⟨f1, fd1, g1, k1, b1, F1⟩ := R.sh
  obtain ⟨f2, fd2, g2, k2, b2, F2⟩ := R.tab
  obtain ⟨f3, fd3, g3, k3, b3, F3⟩ := R.pl
  refine N.F.ok scTold (fun vs H Q E h => ?_) (fun cdv A outer s H vs Q E hr h => ?_)
  · obtain ⟨_, _, _, rfl, _⟩ := h
    rfl
  · obtain ⟨fm, cs, e, rfl, hz, he, q⟩ := h
    have hu : (A.deeper (envOfC "_law_told" (defScope sTold) s.heap.objs.size f cdv)).units + 1 < cLine := by have := hr.units; omega
    refine ⟨_, pss_cons (ps_try_w (tb := fun W => tDrop (tCallV PP w K mg base (A.deeper (envOfC "_law_told" (defScope sTold) s.heap.objs.size f cdv)) (L2.CX PP w) (WE W) (tDGet (tDisp [(tC (.str "SHAPE1"), tC (.ref f1)), (tC (.str "TABLE1"), tC (.ref f2)), (tC (.str "PLAN1"), tC (.ref f3))]) (tVar 0)) (tCons (tVar 1) tNil))) rfl rfl
        (fun W pn xe tk _ => by exact pss_one (ps_expr (pe_callV (CX := L2.CX PP w) (E := WE W) (pe_dget (by exact hu) (pe_disp (pps_cons pe_str (pe_glob (v := .ref f1) (by rfl) g1 rfl) (pps_cons pe_str (pe_glob (v := .ref f2) (by rfl) g2 rfl) (pps_cons pe_str (pe_glob (v := .ref f3) (by rfl) g3 rfl) pps_nil))) rfl rfl (by intro z; cases z) (show 3 ≤ 15 from by decide)) (pv 0) (fun _ _ => rfl)) (fun σ => passAt tk σ) (by exact (pa_cons (pv 1) pa_nil)))))
        (caught_as (i := 2) scTold.nd rfl rfl (by rfl) R.gT (fun a oe cls d pn hz hf => pss_one (ps_ret (pe_lst (pa_cons (pe_place R.cg hz hf (pv 2)) pa_nil))))
          (caught_two (by rfl) R.gB (by rfl) R.gTab (fun a oe cls d pn hz hf => pss_one (ps_ret (pe_lst pa_nil))) caught_nil)))
      (pss_one (ps_ret (pe_lst pa_nil))), ?_⟩
    have z0 : sizeLine = 16777216 := sizeLine_eq
    refine fun p hp => ⟨upd_same, [(.inr "SHAPE1", .ref f1), (.inr "TABLE1", .ref f2), (.inr "PLAN1", .ref f3)], rfl, (show 3 ≤ 15 from by decide), _, rfl, ?_⟩
    have s1 : Same H (upd (upd H p (.dK [])) p (.dK (mergeK [] [(.inr "SHAPE1", .ref f1), (.inr "TABLE1", .ref f2), (.inr "PLAN1", .ref f3)]))) := fun b o e => by
      rw [upd_ne (ne_of_none e hp), upd_ne (ne_of_none e hp)]
      exact e
    obtain ⟨h1, h2, h3⟩ := disp3 (V.ref f1) (.ref f2) (.ref f3)
    obtain ⟨ff, fdf, hv, kf, bf, Ff⟩ : ∃ (ff : Addr) (fdf : FuncData), valV (mergeK [] [(.inr "SHAPE1", V.ref f1), (.inr "TABLE1", .ref f2), (.inr "PLAN1", .ref f3)]) (.inr (S (fmS fm))) = some (.ref ff) ∧ PySem.W.keepIn K (.ref ff) = true ∧ Binds K fdf ["text"] [] ∧
        FnOk PP w K mg base (L2.CX PP w) (D + 7) ff fdf ["text"] (spRd CT CTab CB (readOf D fm)) := by
      cases fm with
      | sh => exact ⟨f1, fd1, by rw [← s_fsh]; exact h1, k1, b1, F1⟩
      | tab => exact ⟨f2, fd2, by rw [← s_ftab]; exact h2, k2, b2, F2⟩
      | pl => exact ⟨f3, fd3, by rw [← s_fpl]; exact h3, k3, b3, F3⟩
    refine ⟨p, .ref ff, rfl, .inl ⟨_, .inr (S (fmS fm)), .inl upd_same, rfl, hv.symm⟩, ff, D + 7, fdf, ["text"], _, rfl, Ff, hr, bf, kf, _, rfl, ?_⟩
    have C := R.cg
    have none_ : ∀ H', e = none → Same H H' → ∀ l, H' l = none → Q (.ref l) (upd H' l (.lst [])) := fun H' ee s2 l hl => q l _ (s2.trans (same_upd hl)) (s2.free hl) (by rw [ee]; exact upd_same)
    refine ⟨cs, e, rfl, hz, he, fun ee => ⟨fun v H' s2 => ⟨by show 0 ≤ sizeLine; omega, none_ _ ee (s1.trans s2)⟩, fun d H' s2 => ⟨?_, ?_⟩⟩, fun p' ee d H' s2 hd => ?_⟩
    · refine ⟨false, C.e2, (by intro z; cases z), fun _ => ⟨true, C.e4, fun _ a ha => ⟨by show 0 ≤ sizeLine; omega, none_ _ ee (s1.trans s2)⟩, (by intro z; cases z)⟩⟩
    · refine ⟨false, C.e3, (by intro z; cases z), fun _ => ⟨true, C.e5, fun _ a ha => ⟨by show 0 ≤ sizeLine; omega, none_ _ ee (s1.trans s2)⟩, (by intro z; cases z)⟩⟩
    · refine ⟨true, C.e1, fun _ a ha => ?_, (by intro z; cases z)⟩
      refine ⟨_, rfl, rfl, rfl, d, _, rfl, hd, by show 1 ≤ sizeLine; omega, fun l hl => ?_⟩
      have s3 := s1.trans s2
      exact q l _ (s3.trans (same_upd hl)) (s3.free hl) (by rw [ee]; exact upd_same)
end
end K10
set_option maxHeartbeats 4000000
namespace K10
def wSHAPE : Cs := [83, 72, 65, 80, 69]
def wTABLE : Cs := [84, 65, 66, 76, 69]
def wENTRIES : Cs := [69, 78, 84, 82, 73, 69, 83]
def wTABLES : Cs := [84, 65, 66, 76, 69, 83]
def wLAST : Cs := [76, 65, 83, 84]
def wROUND : Cs := [82, 79, 85, 78, 68]
/-- the parts -/
inductive NT where
  | f (m : Fm) | shape | table | entries | tables | last | round
def ntS : NT → Cs
  | .f m => fmS m
  | .shape => wSHAPE
  | .table => wTABLE
  | .entries => wENTRIES
  | .tables => wTABLES
  | .last => wLAST
  | .round => wROUND
abbrev Row := Option (List Cs) × List Cs
def rowsOf : NT → List Row
  | .f .sh => [(none, [wSHAPE, wEnd])]
  | .f .tab => [(none, [wTABLE, wEnd])]
  | .f .pl => [(none, [wPlan, [123], wTABLES, wLAST, [125], wEnd])]
  | .shape => [(some [[40]], [[40], wSHAPE, wSHAPE, [41]]), (none, [[111]])]
  | .table => [(none, [wTable, [123], wSHAPE, [59], wENTRIES, [125]])]
  | .entries => [(some [[125]], []), (none, [wSHAPE, [59], wENTRIES])]
  | .tables => [(some [wTable], [wTABLE, wTABLES]), (none, [])]
  | .last => [(some [wRound], [wRound, [123], wTABLE, wROUND, [125]]), (some [wLeft], [wLeft, [59]]), (none, [wRight, [59]])]
  | .round => [(some [[125]], []), (none, [wTABLE, wROUND])]
def allNT : List NT := [.f .sh, .f .tab, .f .pl, .shape, .table, .entries, .tables, .last, .round]
def ntOf (s : Cs) : Option NT := allNT.find? fun n => decide (ntS n = s)
theorem ntOf_nt (n : NT) : ntOf (ntS n) = some n := by
  cases n with
  | f m => cases m <;> rfl
  | _ => rfl
def okRow (s : Cs) (r : Row) : Bool :=
  match r.1 with
  | none => true
  | some l => decide (s ∈ l)
def fits (rows : List Row) (s : Cs) : List (List Cs) := (rows.filter (okRow s)).map (·.2)
def lk (L : Lx) : Cs :=
  match L.k with
  | .fin => wEnd
  | .sgn => L.s
  | .num => [78]
  | .wrd => [87]
  | .bad => [110, 111, 110, 101]
def hits (L : Lx) (w : Cs) : Prop := lk L = w ∨ (lk L = [87] ∧ L.s = w)
instance (L : Lx) (w : Cs) : Decidable (hits L w) := by unfold hits; infer_instance
/-- m turns of the law's machine; the stack's top first -/
inductive Runs (cs : Cs) : Nat → List Cs → Lx → Option Nat → Prop where
  | done {L : Lx} : Runs cs 0 [] L none
  | nt {m : Nat} {top : Cs} {n : NT} {fol : List Cs} {more : List (List Cs)} {rest : List Cs} {L : Lx} {e : Option Nat} (h : ntOf top = some n) (hf : fits (rowsOf n) L.s = fol :: more) (hl : (fol ++ rest).length ≤ 100000) (r : Runs cs m (fol ++ rest) L e) :
      Runs cs (m + 1) (top :: rest) L e
  | tm {m : Nat} {top : Cs} {rest : List Cs} {L : Lx} {e : Option Nat} (h : ntOf top = none) (hh : hits L top) (r : Runs cs m rest (nextL cs L) e) : Runs cs (m + 1) (top :: rest) L e
  | bad {m : Nat} {top : Cs} {rest : List Cs} {L : Lx} (h : ntOf top = none) (hh : ¬ hits L top) : Runs cs (m + 1) (top :: rest) L (some L.p)
def Ru (cs : Cs) (stk : List Cs) (L : Lx) (e : Option Nat) : Prop := ∃ m, Runs cs m stk L e
theorem Ru.nt {cs : Cs} {n : NT} {top : Cs} {fol : List Cs} {more : List (List Cs)} {rest : List Cs} {L : Lx} {e : Option Nat} (et : top = ntS n) (hf : fits (rowsOf n) L.s = fol :: more) (hl : fol.length + rest.length ≤ 100000) (r : Ru cs (fol ++ rest) L e) : Ru cs (top :: rest) L e := by
  obtain ⟨m, r⟩ := r
  subst et
  exact ⟨_, .nt (ntOf_nt n) hf (by rw [List.length_append]; exact hl) r⟩
theorem isWord_cons {l : Cs} (h : isWord l = true) : ∃ c r, l = c :: r ∧ c ∈ lets := by
  cases l with
  | nil => rw [isWord_nil] at h; cases h
  | cons c r =>
    refine ⟨c, r, rfl, ?_⟩
    unfold isWord wordHead at h
    simp only [Bool.and_eq_true, decide_eq_true_eq] at h
    exact h.1.2
/-- a written lexeme: a sign or a word -/
def Wr (w : Cs) : Prop := (∃ c, w = [c] ∧ c ∈ signs) ∨ (isWord w = true ∧ w ≠ [110, 111, 110, 101])
theorem Wr.ne {w : Cs} (h : Wr w) : w ≠ [] ∧ w ≠ [78] ∧ w ≠ [87] ∧ w ≠ wEnd ∧ w ≠ [110, 111, 110, 101] := by
  rcases h with ⟨c, rfl, hc⟩ | ⟨h, h2⟩
  · rw [mem_signs] at hc
    refine ⟨(by intro z; cases z), ?_, ?_, ?_, ?_⟩
    · intro z; cases z; omega
    · intro z; cases z; omega
    · intro z; cases z
    · intro z; cases z
  · obtain ⟨c, r, rfl, hc⟩ := isWord_cons h
    rw [mem_lets] at hc
    refine ⟨(by intro z; cases z), ?_, ?_, ?_, h2⟩
    · intro z; cases z; omega
    · intro z; cases z; omega
    · intro z; cases z; omega
theorem hits_iff {cs : Cs} {L : Lx} {w : Cs} (hL : LxOk cs L) (hw : Wr w) : hits L w ↔ L.s = w := by
  obtain ⟨n1, n2, n3, n4, n5⟩ := hw.ne
  unfold hits lk
  cases e : L.k with
  | fin =>
    have := hL.fin e
    constructor
    · rintro (h | ⟨h, _⟩)
      · exact absurd h.symm n4
      · cases h
    · intro h; rw [this] at h; exact absurd h.symm n1
  | sgn =>
    constructor
    · rintro (h | ⟨_, h⟩)
      · exact h
      · exact h
    · exact .inl
  | num =>
    obtain ⟨c, r, e1, hc⟩ := hL.num e
    constructor
    · rintro (h | ⟨h, _⟩)
      · exact absurd h.symm n2
      · cases h
    · intro h
      rw [e1] at h
      rw [mem_figs] at hc
      rcases hw with ⟨c', rfl, h'⟩ | ⟨h', _⟩
      · cases h; rw [mem_signs] at h'; omega
      · obtain ⟨c', r', e2, h3⟩ := isWord_cons h'
        rw [e2] at h
        cases h
        rw [mem_lets] at h3
        omega
  | wrd =>
    constructor
    · rintro (h | ⟨_, h⟩)
      · exact absurd h.symm n3
      · exact h
    · exact fun h => .inr ⟨rfl, h⟩
  | bad =>
    have := hL.bad e
    constructor
    · rintro (h | ⟨h, _⟩)
      · exact absurd h.symm n5
      · cases h
    · intro h; rw [this] at h; exact absurd h.symm n1
theorem hits_end {cs : Cs} {L : Lx} (hL : LxOk cs L) : hits L wEnd ↔ L.k = .fin := by
  unfold hits lk
  cases e : L.k with
  | fin => exact ⟨fun _ => rfl, fun _ => .inl rfl⟩
  | sgn =>
    obtain ⟨c, e1, _⟩ := hL.sgn e
    refine ⟨?_, (by intro z; cases z)⟩
    rintro (h | ⟨_, h⟩) <;> · rw [e1] at h; cases h
  | num => exact ⟨(by rintro (h | ⟨h, _⟩) <;> cases h), (by intro z; cases z)⟩
  | wrd =>
    refine ⟨?_, (by intro z; cases z)⟩
    rintro (h | ⟨_, h⟩)
    · cases h
    · have := hL.wrd e
      rw [h] at this
      exact absurd this (by decide)
  | bad => exact ⟨(by rintro (h | ⟨h, _⟩) <;> cases h), (by intro z; cases z)⟩
theorem wr_of {w : Cs} (h : (decide (w ∈ signs.map fun c => [c]) || (isWord w && decide (w ≠ [110, 111, 110, 101]))) = true) : Wr w := by
  rw [Bool.or_eq_true, Bool.and_eq_true] at h
  rcases h with h | ⟨h1, h2⟩
  · obtain ⟨c, hc, e⟩ := List.mem_map.mp (of_decide_eq_true h)
    exact .inl ⟨c, e.symm, hc⟩
  · exact .inr ⟨h1, of_decide_eq_true h2⟩
/-- a written lexeme is taken -/
theorem Ru.tm {cs : Cs} {w : Cs} {rest : List Cs} {L : Lx} {e : Option Nat} (hL : LxOk cs L) (hn : ntOf w = none) (hw : Wr w) (h : L.s = w) (r : Ru cs rest (nextL cs L) e) : Ru cs (w :: rest) L e := by
  obtain ⟨m, r⟩ := r
  exact ⟨_, .tm hn ((hits_iff hL hw).mpr h) r⟩
theorem Ru.bad {cs : Cs} {w : Cs} {rest : List Cs} {L : Lx} (hL : LxOk cs L) (hn : ntOf w = none) (hw : Wr w) (h : L.s ≠ w) : Ru cs (w :: rest) L (some L.p) := ⟨1, .bad hn fun z => h ((hits_iff hL hw).mp z)⟩
/-- what a part's reading says of the machine -/
def Agree {α : Type} (cs : Cs) (stk rest : List Cs) (L : Lx) (r : Except Nat (α × Lx)) : Prop := (∀ p, r = .error p → Ru cs stk L (some p)) ∧ ∀ t L', r = .ok (t, L') → LxOk cs L' ∧ ∀ e, Ru cs rest L' e → Ru cs stk L e
theorem agree_tk {α : Type} {cs : Cs} {w : Cs} {stk rest : List Cs} {L : Lx} {f : Lx → Res (α × Lx)} {r : Except Nat (α × Lx)} (hL : LxOk cs L) (hn : ntOf w = none) (hw : Wr w) (h : tk cs w L f = some r) (k : LxOk cs (nextL cs L) → f (nextL cs L) = some r → Agree cs stk rest (nextL cs L) r) :
    Agree cs (w :: stk) rest L r := by
  by_cases e : L.s = w
  · rw [tk_yes e] at h
    obtain ⟨a, b⟩ := k (next_ok hL) h
    exact ⟨fun p z => (a p z).tm hL hn hw e, fun t L' z => ⟨(b t L' z).1, fun e' r' => ((b t L' z).2 e' r').tm hL hn hw e⟩⟩
  · rw [tk_no e] at h
    cases h
    exact ⟨fun p z => (by cases z; exact Ru.bad hL hn hw e), fun t L' z => (by cases z)⟩
theorem agree_shape {cs : Cs} : ∀ {n : Nat} {L : Lx} {r : Except Nat (Sh × Lx)} {rest : List Cs}, LxOk cs L → rest.length + 4 * n ≤ 100000 → takeShape cs n L = some r → Agree cs (wSHAPE :: rest) rest L r
  | 0, _, _, _, _, _, h => by unfold takeShape at h; cases h
  | n + 1, L, r, rest, hL, hr, h => by
    unfold takeShape at h
    by_cases h1 : L.s = [40]
    · rw [if_pos h1] at h
      have up : ∀ e, Ru cs ([40] :: wSHAPE :: wSHAPE :: [41] :: rest) L e → Ru cs (wSHAPE :: rest) L e := fun e r => Ru.nt (n := .shape) (fol := [[40], wSHAPE, wSHAPE, [41]]) (more := [[[111]]]) rfl (by rw [h1]; rfl) (by show 4 + rest.length ≤ _; omega) r
      have l1 := next_ok hL
      have up2 : ∀ e, Ru cs (wSHAPE :: wSHAPE :: [41] :: rest) (nextL cs L) e → Ru cs (wSHAPE :: rest) L e := fun e r => up e (r.tm hL rfl (wr_of (by decide)) h1)
      cases e1 : takeShape cs n (nextL cs L) with
      | none => rw [e1] at h; cases h
      | some r1 =>
        have A1 := agree_shape (rest := wSHAPE :: [41] :: rest) l1 (by show rest.length + 1 + 1 + 4 * n ≤ _; omega) e1
        rw [e1] at h
        cases r1 with
        | error p =>
          cases h
          exact ⟨fun p z => (by cases z; exact up2 _ (A1.1 _ rfl)), fun t L' z => (by cases z)⟩
        | ok x1 =>
          obtain ⟨l, L1⟩ := x1
          obtain ⟨j1, B1⟩ := A1.2 _ _ rfl
          cases e2 : takeShape cs n L1 with
          | none => simp only [e2] at h; cases h
          | some r2 =>
            have A2 := agree_shape (rest := [41] :: rest) j1 (by show rest.length + 1 + 4 * n ≤ _; omega) e2
            simp only [e2] at h
            cases r2 with
            | error p =>
              cases h
              exact ⟨fun p z => (by cases z; exact up2 _ (B1 _ (A2.1 _ rfl))), fun t L' z => (by cases z)⟩
            | ok x2 =>
              obtain ⟨r', L2⟩ := x2
              simp only at h
              obtain ⟨j2, B2⟩ := A2.2 _ _ rfl
              by_cases h2 : L2.s = [41]
              · rw [if_pos h2] at h
                cases h
                exact ⟨fun p z => (by cases z), fun t L' z => (by cases z; exact ⟨next_ok j2, fun e r => up2 _ (B1 _ (B2 _ (r.tm j2 rfl (wr_of (by decide)) h2)))⟩)⟩
              · rw [if_neg h2] at h
                cases h
                exact ⟨fun p z => (by cases z; exact up2 _ (B1 _ (B2 _ (Ru.bad j2 rfl (wr_of (by decide)) h2)))), fun t L' z => (by cases z)⟩
    · rw [if_neg h1] at h
      have up : ∀ e, Ru cs ([111] :: rest) L e → Ru cs (wSHAPE :: rest) L e := fun e r => Ru.nt (n := .shape) (fol := [[111]]) (more := []) rfl (by
        show ((List.filter (okRow L.s) _).map _) = _
        have : okRow L.s (some [[40]], [[40], wSHAPE, wSHAPE, [41]]) = false := decide_eq_false (by intro z; exact h1 (List.mem_singleton.mp z))
        rw [show rowsOf NT.shape = [(some [[40]], [[40], wSHAPE, wSHAPE, [41]]), (none, [[111]])] from rfl, List.filter_cons, if_neg (by rw [this]; decide)] <;> rfl) (by show 1 + rest.length ≤ _; omega) r
      by_cases h2 : L.s = [111]
      · rw [if_pos h2] at h
        cases h
        exact ⟨fun p z => (by cases z), fun t L' z => (by cases z; exact ⟨next_ok hL, fun e r => up _ (r.tm hL rfl (wr_of (by decide)) h2)⟩)⟩
      · rw [if_neg h2] at h
        cases h
        exact ⟨fun p z => (by cases z; exact up _ (Ru.bad hL rfl (wr_of (by decide)) h2)), fun t L' z => (by cases z)⟩
theorem fits_no {s : Cs} {l : List Cs} {f : List Cs} {rest : List Row} (h : s ∉ l) : fits ((some l, f) :: rest) s = fits rest s := by
  unfold fits
  rw [List.filter_cons, if_neg]
  show ¬ decide (s ∈ l) = true
  rw [decide_eq_false h]
  decide
theorem fits_yes {s : Cs} {l : List Cs} {f : List Cs} {rest : List Row} (h : s ∈ l) : fits ((some l, f) :: rest) s = f :: fits rest s := by
  unfold fits
  rw [List.filter_cons, if_pos]
  · rfl
  · show decide (s ∈ l) = true
    exact decide_eq_true h
theorem fits_any {s : Cs} {f : List Cs} {rest : List Row} : fits ((none, f) :: rest) s = f :: fits rest s := rfl
theorem nin {s x : Cs} (h : s ≠ x) : s ∉ [x] := fun z => h (List.mem_singleton.mp z)
theorem yin {s x : Cs} (h : s = x) : s ∈ [x] := List.mem_singleton.mpr h
theorem agree_entries {cs : Cs} {D : Nat} {rest : List Cs} (hr : rest.length + 4 * D + 20 ≤ 100000) : ∀ {m : Nat} {L : Lx} {acc : List Sh} {r : Except Nat (List Sh × Lx)}, LxOk cs L → takeEntries cs D m L acc = some r →
    (acc ≠ [] → Agree cs (wENTRIES :: [125] :: rest) rest L r) ∧ (acc = [] → Agree cs (wSHAPE :: [59] :: wENTRIES :: [125] :: rest) rest L r)
  | 0, _, _, _, _, h => by unfold takeEntries at h; cases h
  | m + 1, L, acc, r, hL, h => by
    unfold takeEntries at h
    -- one more
    have step : ¬ (acc ≠ [] ∧ L.s = [125]) → Agree cs (wSHAPE :: [59] :: wENTRIES :: [125] :: rest) rest L r := fun hc => by
      rw [if_neg hc] at h
      cases e1 : takeShape cs D L with
      | none => rw [e1] at h; cases h
      | some r1 =>
        have A1 := agree_shape (rest := [59] :: wENTRIES :: [125] :: rest) hL (by show rest.length + 1 + 1 + 1 + 4 * D ≤ _; omega) e1
        rw [e1] at h
        cases r1 with
        | error p =>
          cases h
          exact ⟨fun p z => (by cases z; exact A1.1 _ rfl), fun t L' z => (by cases z)⟩
        | ok x1 =>
          obtain ⟨t, L1⟩ := x1
          simp only at h
          obtain ⟨j1, B1⟩ := A1.2 _ _ rfl
          by_cases h1 : L1.s = [59]
          · rw [if_pos h1] at h
            have A2 := (agree_entries hr (next_ok j1) h).1 (by simp)
            exact ⟨fun p z => B1 _ ((A2.1 p z).tm j1 rfl (wr_of (by decide)) h1), fun t L' z => ⟨(A2.2 t L' z).1, fun e q => B1 _ (((A2.2 t L' z).2 e q).tm j1 rfl (wr_of (by decide)) h1)⟩⟩
          · rw [if_neg h1] at h
            cases h
            exact ⟨fun p z => (by cases z; exact B1 _ (Ru.bad j1 rfl (wr_of (by decide)) h1)), fun t L' z => (by cases z)⟩
    refine ⟨fun hne => ?_, fun he => step fun z => z.1 he⟩
    by_cases hc : L.s = [125]
    · rw [if_pos ⟨hne, hc⟩] at h
      cases h
      refine ⟨fun p z => (by cases z), fun t L' z => ?_⟩
      cases z
      exact ⟨next_ok hL, fun e q => Ru.nt (n := .entries) (fol := []) rfl (fits_yes (yin hc)) (by show 0 + (rest.length + 1) ≤ _; omega) (q.tm hL rfl (wr_of (by decide)) hc)⟩
    · have A := step fun z => hc z.2
      have up : ∀ e, Ru cs (wSHAPE :: [59] :: wENTRIES :: [125] :: rest) L e → Ru cs (wENTRIES :: [125] :: rest) L e := fun e q => Ru.nt (n := .entries) (fol := [wSHAPE, [59], wENTRIES]) rfl ((fits_no (nin hc)).trans fits_any) (by show 3 + (rest.length + 1) ≤ _; omega) q
      exact ⟨fun p z => up _ (A.1 p z), fun t L' z => ⟨(A.2 t L' z).1, fun e q => up _ ((A.2 t L' z).2 e q)⟩⟩
theorem agree_table {cs : Cs} {D n : Nat} {rest : List Cs} (hr : rest.length + 4 * D + 20 ≤ 100000) {L : Lx} {r : Except Nat (List Sh × Lx)} (hL : LxOk cs L) (h : takeTable cs D n L = some r) : Agree cs (wTABLE :: rest) rest L r := by
  have A : Agree cs (wTable :: [123] :: wSHAPE :: [59] :: wENTRIES :: [125] :: rest) rest L r :=
    agree_tk hL rfl (wr_of (by decide)) h fun l1 h1 => agree_tk l1 rfl (wr_of (by decide)) h1 fun l2 h2 => (agree_entries hr l2 h2).2 rfl
  have up : ∀ e, Ru cs (wTable :: [123] :: wSHAPE :: [59] :: wENTRIES :: [125] :: rest) L e → Ru cs (wTABLE :: rest) L e := fun e q => Ru.nt (n := .table) (fol := [wTable, [123], wSHAPE, [59], wENTRIES, [125]]) rfl fits_any (by show 6 + rest.length ≤ _; omega) q
  exact ⟨fun p z => up _ (A.1 p z), fun t L' z => ⟨(A.2 t L' z).1, fun e q => up _ ((A.2 t L' z).2 e q)⟩⟩
theorem agree_round {cs : Cs} {D n : Nat} {rest : List Cs} (hr : rest.length + 4 * D + 30 ≤ 100000) : ∀ {m : Nat} {L : Lx} {acc : List (List Sh)} {r : Except Nat (List (List Sh) × Lx)}, LxOk cs L → takeRound cs D n m L acc = some r →
    (acc ≠ [] → Agree cs (wROUND :: [125] :: rest) rest L r) ∧ (acc = [] → Agree cs (wTABLE :: wROUND :: [125] :: rest) rest L r)
  | 0, _, _, _, _, h => by unfold takeRound at h; cases h
  | m + 1, L, acc, r, hL, h => by
    unfold takeRound at h
    have step : ¬ (acc ≠ [] ∧ L.s = [125]) → Agree cs (wTABLE :: wROUND :: [125] :: rest) rest L r := fun hc => by
      rw [if_neg hc] at h
      cases e1 : takeTable cs D n L with
      | none => rw [e1] at h; cases h
      | some r1 =>
        have A1 := agree_table (rest := wROUND :: [125] :: rest) (by show rest.length + 1 + 1 + 4 * D + 20 ≤ _; omega) hL e1
        rw [e1] at h
        cases r1 with
        | error p =>
          cases h
          exact ⟨fun p z => (by cases z; exact A1.1 _ rfl), fun t L' z => (by cases z)⟩
        | ok x1 =>
          obtain ⟨t, L1⟩ := x1
          simp only at h
          obtain ⟨j1, B1⟩ := A1.2 _ _ rfl
          have A2 := (agree_round hr j1 h).1 (by simp)
          exact ⟨fun p z => B1 _ (A2.1 p z), fun t L' z => ⟨(A2.2 t L' z).1, fun e q => B1 _ ((A2.2 t L' z).2 e q)⟩⟩
    refine ⟨fun hne => ?_, fun he => step fun z => z.1 he⟩
    by_cases hc : L.s = [125]
    · rw [if_pos ⟨hne, hc⟩] at h
      cases h
      refine ⟨fun p z => (by cases z), fun t L' z => ?_⟩
      cases z
      exact ⟨next_ok hL, fun e q => Ru.nt (n := .round) (fol := []) rfl (fits_yes (yin hc)) (by show 0 + (rest.length + 1) ≤ _; omega) (q.tm hL rfl (wr_of (by decide)) hc)⟩
    · have A := step fun z => hc z.2
      have up : ∀ e, Ru cs (wTABLE :: wROUND :: [125] :: rest) L e → Ru cs (wROUND :: [125] :: rest) L e := fun e q => Ru.nt (n := .round) (fol := [wTABLE, wROUND]) rfl ((fits_no (nin hc)).trans fits_any) (by show 2 + (rest.length + 1) ≤ _; omega) q
      exact ⟨fun p z => up _ (A.1 p z), fun t L' z => ⟨(A.2 t L' z).1, fun e q => up _ ((A.2 t L' z).2 e q)⟩⟩
theorem agree_tables {cs : Cs} {D n : Nat} {rest : List Cs} (hr : rest.length + 4 * D + 30 ≤ 100000) : ∀ {m : Nat} {L : Lx} {acc : List (List Sh)} {r : Except Nat (List (List Sh) × Lx)}, LxOk cs L → takeTables cs D n m L acc = some r → Agree cs (wTABLES :: rest) rest L r
  | 0, _, _, _, _, h => by unfold takeTables at h; cases h
  | m + 1, L, acc, r, hL, h => by
    unfold takeTables at h
    by_cases hc : L.s = wTable
    · rw [if_pos hc] at h
      have up : ∀ e, Ru cs (wTABLE :: wTABLES :: rest) L e → Ru cs (wTABLES :: rest) L e := fun e q => Ru.nt (n := .tables) (fol := [wTABLE, wTABLES]) rfl (fits_yes (yin hc)) (by show 2 + rest.length ≤ _; omega) q
      cases e1 : takeTable cs D n L with
      | none => rw [e1] at h; cases h
      | some r1 =>
        have A1 := agree_table (rest := wTABLES :: rest) (by show rest.length + 1 + 4 * D + 20 ≤ _; omega) hL e1
        rw [e1] at h
        cases r1 with
        | error p =>
          cases h
          exact ⟨fun p z => (by cases z; exact up _ (A1.1 _ rfl)), fun t L' z => (by cases z)⟩
        | ok x1 =>
          obtain ⟨t, L1⟩ := x1
          simp only at h
          obtain ⟨j1, B1⟩ := A1.2 _ _ rfl
          have A2 := agree_tables hr j1 h
          exact ⟨fun p z => up _ (B1 _ (A2.1 p z)), fun t L' z => ⟨(A2.2 t L' z).1, fun e q => up _ (B1 _ ((A2.2 t L' z).2 e q))⟩⟩
    · rw [if_neg hc] at h
      cases h
      refine ⟨fun p z => (by cases z), fun t L' z => ?_⟩
      cases z
      exact ⟨hL, fun e q => Ru.nt (n := .tables) (fol := []) rfl ((fits_no (nin hc)).trans fits_any) (by show 0 + rest.length ≤ _; omega) q⟩
theorem agree_end {cs : Cs} {D n : Nat} {rest : List Cs} (hr : rest.length + 4 * D + 40 ≤ 100000) {L : Lx} {r : Except Nat (En × Lx)} (hL : LxOk cs L) (h : takeEnd cs D n L = some r) : Agree cs (wLAST :: rest) rest L r := by
  unfold takeEnd at h
  by_cases hc : L.s = wRound
  · rw [if_pos hc] at h
    have up : ∀ e, Ru cs ([123] :: wTABLE :: wROUND :: [125] :: rest) (nextL cs L) e → Ru cs (wLAST :: rest) L e := fun e q => Ru.nt (n := .last) (fol := [wRound, [123], wTABLE, wROUND, [125]]) rfl (fits_yes (yin hc)) (by show 5 + rest.length ≤ _; omega) (q.tm hL rfl (wr_of (by decide)) hc)
    have A : Agree cs ([123] :: wTABLE :: wROUND :: [125] :: rest) rest (nextL cs L) r := agree_tk (next_ok hL) rfl (wr_of (by decide)) h fun l1 h1 => by
      cases e1 : takeRound cs D n n (nextL cs (nextL cs L)) [] with
      | none => rw [e1] at h1; cases h1
      | some r1 =>
        have A1 := (agree_round (rest := rest) (by omega) l1 e1).2 rfl
        rw [e1] at h1
        cases r1 with
        | error p =>
          cases h1
          exact ⟨fun p z => (by cases z; exact A1.1 _ rfl), fun t L' z => (by cases z)⟩
        | ok x1 =>
          cases h1
          refine ⟨fun p z => (by cases z), fun t L' z => ?_⟩
          cases z
          exact A1.2 _ _ rfl
    exact ⟨fun p z => up _ (A.1 p z), fun t L' z => ⟨(A.2 t L' z).1, fun e q => up _ ((A.2 t L' z).2 e q)⟩⟩
  · rw [if_neg hc] at h
    by_cases h2 : L.s = wLeft
    · rw [if_pos h2] at h
      have up : ∀ e, Ru cs ([59] :: rest) (nextL cs L) e → Ru cs (wLAST :: rest) L e := fun e q => Ru.nt (n := .last) (fol := [wLeft, [59]]) rfl ((fits_no (nin hc)).trans (fits_yes (yin h2))) (by show 2 + rest.length ≤ _; omega) (q.tm hL rfl (wr_of (by decide)) h2)
      have A : Agree cs ([59] :: rest) rest (nextL cs L) r := agree_tk (next_ok hL) rfl (wr_of (by decide)) h fun l1 h1 => by
        cases h1
        exact ⟨fun p z => (by cases z), fun t L' z => (by cases z; exact ⟨l1, fun e q => q⟩)⟩
      exact ⟨fun p z => up _ (A.1 p z), fun t L' z => ⟨(A.2 t L' z).1, fun e q => up _ ((A.2 t L' z).2 e q)⟩⟩
    · rw [if_neg h2] at h
      have up : ∀ e, Ru cs (wRight :: [59] :: rest) L e → Ru cs (wLAST :: rest) L e := fun e q => Ru.nt (n := .last) (fol := [wRight, [59]]) rfl (((fits_no (nin hc)).trans (fits_no (nin h2))).trans fits_any) (by show 2 + rest.length ≤ _; omega) q
      have A : Agree cs (wRight :: [59] :: rest) rest L r := agree_tk hL rfl (wr_of (by decide)) h fun l1 h1 => agree_tk l1 rfl (wr_of (by decide)) h1 fun l2 h2 => by
        cases h2
        exact ⟨fun p z => (by cases z), fun t L' z => (by cases z; exact ⟨l2, fun e q => q⟩)⟩
      exact ⟨fun p z => up _ (A.1 p z), fun t L' z => ⟨(A.2 t L' z).1, fun e q => up _ ((A.2 t L' z).2 e q)⟩⟩
theorem ru_fin {α : Type} {cs : Cs} {L : Lx} {a : α} {e : Option Nat} (hL : LxOk cs L) (h : errOf (fin L a) = some e) : Ru cs [wEnd] L e := by
  unfold fin at h
  by_cases hf : L.k = .fin
  · rw [if_pos hf] at h
    cases h
    exact ⟨1, .tm rfl ((hits_end hL).mpr hf) .done⟩
  · rw [if_neg hf] at h
    cases h
    exact ⟨1, .bad rfl fun z => hf ((hits_end hL).mp z)⟩
/-- the machine tells what reading tells -/
theorem ru_of {cs : Cs} {D : Nat} (hD : D ≤ 1000) {fm : Fm} {e : Option Nat} (h : readOf D fm cs = some e) : Ru cs [fmS fm] (lexAt cs 0) e := by
  have l0 : LxOk cs (lexAt cs 0) := lexAt_ok (Nat.zero_le _)
  cases fm with
  | sh =>
    have h : errOf (readShape cs D) = some e := h
    unfold readShape at h
    refine Ru.nt (n := .f .sh) (fol := [wSHAPE, wEnd]) rfl fits_any (by show 2 + 0 ≤ _; omega) ?_
    cases e1 : takeShape cs D (lexAt cs 0) with
    | none => rw [e1] at h; cases h
    | some r1 =>
      have A := agree_shape (rest := [wEnd]) l0 (by show 1 + 4 * D ≤ _; omega) e1
      rw [e1] at h
      cases r1 with
      | error p => cases h; exact A.1 _ rfl
      | ok x => exact (A.2 _ _ rfl).2 _ (ru_fin (A.2 _ _ rfl).1 h)
  | tab =>
    have h : errOf (readTable cs D (cs.length + 1)) = some e := h
    unfold readTable at h
    refine Ru.nt (n := .f .tab) (fol := [wTABLE, wEnd]) rfl fits_any (by show 2 + 0 ≤ _; omega) ?_
    cases e1 : takeTable cs D (cs.length + 1) (lexAt cs 0) with
    | none => rw [e1] at h; cases h
    | some r1 =>
      have A := agree_table (rest := [wEnd]) (by show 1 + 4 * D + 20 ≤ _; omega) l0 e1
      rw [e1] at h
      cases r1 with
      | error p => cases h; exact A.1 _ rfl
      | ok x => exact (A.2 _ _ rfl).2 _ (ru_fin (A.2 _ _ rfl).1 h)
  | pl =>
    have h : errOf (readPlan cs D (cs.length + 1)) = some e := h
    unfold readPlan at h
    refine Ru.nt (n := .f .pl) (fol := [wPlan, [123], wTABLES, wLAST, [125], wEnd]) rfl fits_any (by show 6 + 0 ≤ _; omega) ?_
    by_cases h1 : (lexAt cs 0).s = wPlan
    · rw [tk_yes h1] at h
      refine Ru.tm l0 rfl (wr_of (by decide)) h1 ?_
      have l1 := next_ok l0
      by_cases h2 : (nextL cs (lexAt cs 0)).s = [123]
      · rw [tk_yes h2] at h
        refine Ru.tm l1 rfl (wr_of (by decide)) h2 ?_
        have l2 := next_ok l1
        cases e1 : takeTables cs D (cs.length + 1) (cs.length + 1) (nextL cs (nextL cs (lexAt cs 0))) [] with
        | none => rw [e1] at h; cases h
        | some r1 =>
          have A := agree_tables (rest := [wLAST, [125], wEnd]) (by show 3 + 4 * D + 30 ≤ _; omega) l2 e1
          rw [e1] at h
          cases r1 with
          | error p => cases h; exact A.1 _ rfl
          | ok x =>
            obtain ⟨ts, L2⟩ := x
            simp only at h
            obtain ⟨j2, B⟩ := A.2 _ _ rfl
            refine B _ ?_
            cases e2 : takeEnd cs D (cs.length + 1) L2 with
            | none => rw [e2] at h; cases h
            | some r2 =>
              have A2 := agree_end (rest := [[125], wEnd]) (by show 2 + 4 * D + 40 ≤ _; omega) j2 e2
              rw [e2] at h
              cases r2 with
              | error p => cases h; exact A2.1 _ rfl
              | ok x2 =>
                obtain ⟨en, L3⟩ := x2
                simp only at h
                obtain ⟨j3, B2⟩ := A2.2 _ _ rfl
                refine B2 _ ?_
                by_cases h3 : L3.s = [125]
                · rw [tk_yes h3] at h
                  exact Ru.tm j3 rfl (wr_of (by decide)) h3 (ru_fin (next_ok j3) h)
                · rw [tk_no h3] at h
                  cases h
                  exact Ru.bad j3 rfl (wr_of (by decide)) h3
      · rw [tk_no h2] at h
        cases h
        exact Ru.bad l1 rfl (wr_of (by decide)) h2
    · rw [tk_no h1] at h
      cases h
      exact Ru.bad l0 rfl (wr_of (by decide)) h1
end K10
set_option maxHeartbeats 4000000
namespace K10
open PySem PySem.Spec PyProof.Rows L2
open SX (S S_len S_inj S_cat)
abbrev sLLex : Stmt := tp 38
abbrev sLWord : Stmt := tp 40
theorem lt_one (a b : Nat) : (!decide (([b] : List Nat) < [a])) = decide (a ≤ b) := by
  have h : (([b] : List Nat) < [a]) ↔ b < a := by
    constructor
    · intro h
      cases h with
      | rel h => exact h
      | cons h => cases h
    · intro h
      exact List.Lex.rel h
  by_cases c : a ≤ b
  · rw [decide_eq_true c, decide_eq_false (fun z => absurd (h.mp z) (by omega))]; rfl
  · rw [decide_eq_false c, decide_eq_true (h.mpr (by omega))]; rfl
/-- signs one after the other -/
theorem op_le_sign {X : Cx} : OpR X (compareOp .LtE) (fun x y H Q => ∃ a b : Nat, x = .str ⟨#[a]⟩ ∧ y = .str ⟨#[b]⟩ ∧ Q (.bl (decide (a ≤ b))) H) := by
  intro pins s σ H x y v u Q I rx ry h
  obtain ⟨a, b, rfl, rfl, q⟩ := h
  obtain ⟨t, rfl⟩ := rx
  obtain ⟨t', rfl⟩ := ry
  exact PySem.P.le_str ⟨.bl _, H, I, rfl, by
    have e := lt_one a b
    show Q (.bl (!decide (([b] : List Nat) < [a]))) H
    rw [e]
    exact q⟩
section
variable {P : Program} {w : World} {K : PySem.W.Frag} {mg : Str → Option Value} {base : Heap}
theorem scLRun : FnScope ["_law_text", "_law_place", "_law_signs"] ["_law_text", "_law_place", "_law_signs"] (defScope sLRun) := ⟨rfl, rfl, rfl, by decide +kernel, rfl, by decide +kernel, by decide +kernel⟩
theorem ok_lrun {f : Addr} {fd : FuncData} (F : Fun K "_law_run" "_law_run" sLRun f fd) (nl : mg "len" = none) : FnOk P w K mg base CX0 1 f fd ["_law_text", "_law_place", "_law_signs"] spRun := by
  refine F.ok scLRun (fun vs H Q E h => ?_) (fun cdv A outer s H vs Q E hr h => ?_)
  · obtain ⟨cs, sg, p, rfl, _⟩ := h
    rfl
  · obtain ⟨cs, sg, p, rfl, hp, hz, q⟩ := h
    refine ⟨_, pss_cons (ps_while PassesOwn.never (PW.pt (pw_and (pt_cmpR op_lt (pv 1) (pe_callB call_len_str (by rfl) nl PySem.boot_len (pa_cons (pv 0) pa_nil)) (nomark _))
        (pw_and1 (pt_cmpR op_in_sign (pe_item_str (pv 0) (pv 1) (fun _ _ => rfl)) (pv 2) rfl))))
        (pss_one (ps_set (i := 1) scLRun.nd rfl (Or.inl rfl) (pe_op op_add (pv 1) pe_int))))
      (pss_one (ps_ret (pv 1))), ?_⟩
    refine ⟨fun m σ H' => H' = H ∧ ∃ k : Nat, m = cs.length - k ∧ σ = [some (.str (S cs)), some (.int k), some (.str (S sg))] ∧ k ≤ cs.length ∧ runEnd cs k sg = runEnd cs p sg, ⟨_, rfl, p, rfl, rfl, hp, rfl⟩, ?_⟩
    rintro m σ H' ⟨rfl, k, rfl, rfl, hk, e⟩
    refine ⟨_, rfl, _, rfl, S cs, rfl, by rw [S_len]; exact Nat.le_of_lt hz, _, _, rfl, rfl, _, rfl, ?_⟩
    rw [S_len]
    by_cases hlt : k < cs.length
    · refine if_true_of (decide_eq_true (by omega)) ?_
      obtain ⟨c, hc⟩ : ∃ c, cs[k]? = some c := ⟨cs[k], List.getElem?_eq_getElem hlt⟩
      refine ⟨_, rfl, _, rfl, S cs, k, c, rfl, rfl, by omega, by have : sizeLine = 16777216 := sizeLine_eq; omega, by rw [S_len]; omega, S_at hc, _, rfl, c, _, rfl, rfl, _, rfl, ?_⟩
      rw [S_list]
      by_cases hm : c ∈ sg
      · refine if_true_of (decide_eq_true hm) ?_
        refine ⟨fun σ' H' => ∃ m', m' < cs.length - k ∧ _, fun _ _ z => z, ?_⟩
        refine ⟨_, rfl, _, _, rfl, rfl, cs.length - (k + 1), by omega, rfl, k + 1, rfl, rfl, hlt, ?_⟩
        rw [runEnd_in hc hm]
        exact e
      · refine if_false_of (decide_eq_false hm) ?_
        refine ⟨_, rfl, ?_⟩
        rw [runEnd_out hc hm] at e
        rw [e]
        exact q
    · refine if_false_of (decide_eq_false (by omega)) ?_
      refine if_false_of rfl ?_
      refine ⟨_, rfl, ?_⟩
      rw [runEnd_end (by omega)] at e
      rw [e]
      exact q
theorem s_lf : ("abcdefghijklmnopqrstuvwxyz0123456789" : Str) = S (lets ++ figs) := by decide +kernel
theorem s_a : ("a" : Str) = ⟨#[97]⟩ := by decide +kernel
theorem s_z : ("z" : Str) = ⟨#[122]⟩ := by decide +kernel
theorem scLWord : FnScope ["_law_value", "_law_sign"] ["_law_value"] (defScope sLWord) := ⟨rfl, rfl, rfl, by decide +kernel, rfl, by decide +kernel, by decide +kernel⟩
/-- the signs that are in no word -/
def odd (l : Cs) : List V := (l.filter fun c => !decide (c ∈ lets ++ figs)).map fun _ => .int 1
theorem odd_snoc (l : Cs) (c : Nat) : odd (l ++ [c]) = if c ∈ lets ++ figs then odd l else odd l ++ [.int 1] := by
  unfold odd
  rw [List.filter_append, List.map_append]
  by_cases h : c ∈ lets ++ figs
  · rw [if_pos h, List.filter_cons, if_neg (by rw [decide_eq_true h]; decide)]
    exact List.append_nil _
  · rw [if_neg h, List.filter_cons, if_pos (by rw [decide_eq_false h]; rfl)]
    rfl
theorem odd_len (l : Cs) : (odd l).length ≤ l.length := by
  unfold odd
  rw [List.length_map]
  exact List.length_filter_le _ _
theorem odd_nil (l : Cs) : (odd l).isEmpty = l.all fun c => decide (c ∈ lets ++ figs) := by
  induction l with
  | nil => rfl
  | cons c l ih =>
    unfold odd at ih ⊢
    rw [List.filter_cons, List.all_cons]
    by_cases h : c ∈ lets ++ figs
    · rw [if_neg (by rw [decide_eq_true h]; decide), decide_eq_true h, Bool.true_and]
      exact ih
    · rw [if_pos (by rw [decide_eq_false h]; rfl), decide_eq_false h, Bool.false_and]
      rfl
theorem ok_lword {f : Addr} {fd : FuncData} (F : Fun K "_law_is_word" "_law_is_word" sLWord f fd) (T : GT K mg) : FnOk P w K mg base CX0 1 f fd ["_law_value"] spWord := by
  refine F.ok scLWord (fun vs H Q E h => ?_) (fun cdv A outer s H vs Q E hr h => ?_)
  · obtain ⟨l, rfl, _⟩ := h
    rfl
  · obtain ⟨l, rfl, hz, q⟩ := h
    refine ⟨_, pss_cons (ps_if (PW.pt (pw_or (pt_not (pt_val (pe_callB call_isi (by rfl) T.isi (by decide +kernel) (pa_cons (pv 0) (pa_cons (pe_bltn (v := .ty "str") (by rfl) T.str (by decide +kernel) rfl) pa_nil)))))
        (pw_or (pt_not (pt_chain op_le op_le pe_int (pe_callB call_len_str (by rfl) T.len PySem.boot_len (pa_cons (pv 0) pa_nil)) pe_int))
          (pw_or1 (pt_not (pt_chain op_le_sign op_le_sign pe_str (pe_item_str (pv 0) pe_int (fun _ _ => rfl)) pe_str))))))
        (pss_one (ps_ret pe_bl)) pss_nil)
      (pss_one (ps_ret (pe_cmpR (op_eq_nilL hr.units0)
        (pe_lc (own := [("_law_sign", 1)]) (g := gName 1) (tt := tTest (tOp (fun x y H Q => ∃ (c : Nat) (z : Str), x = .str ⟨#[c]⟩ ∧ y = .str z ∧ Q (.bl (!decide (c ∈ z.cps.toList))) H) (tVar 1) (tC (.str "abcdefghijklmnopqrstuvwxyz0123456789")))) rfl scLWord.nd (pi_str (pv 0)) (blkOk_by (N := ["_law_value", "_law_sign"]) (sc := defScope sLWord) (by decide +kernel)) (fun _ _ _ _ _ => pg_name (i := 1) scLWord.nd rfl (Or.inl rfl))
          (fun _ _ _ _ _ => pts_one (pt_cmpR op_notIn_sign (pv 1) pe_str (by rfl))) (fun _ _ _ _ _ => pe_int)) (pe_lst pa_nil) (nomark _)))), ?_⟩
    have z0 : sizeLine = 16777216 := sizeLine_eq
    refine ⟨_, rfl, _, _, _, _, true, rfl, .ty "str", .base (.str _), kit_ty (by decide +kernel), true, rfl, if_false_of rfl ?_⟩
    refine ⟨_, rfl, S l, rfl, by rw [S_len]; omega, _, _, rfl, rfl, _, rfl, ?_⟩
    rw [S_len]
    by_cases h1 : 1 ≤ l.length
    · refine if_true_of (decide_eq_true (by omega)) ?_
      refine ⟨_, _, rfl, rfl, _, rfl, ?_⟩
      by_cases h2 : l.length ≤ 12
      · refine if_false_of (by rw [decide_eq_true (by omega)]; rfl) ?_
        obtain ⟨c, r, e⟩ : ∃ c r, l = c :: r := by
          cases l with
          | nil => exact absurd h1 (by simp)
          | cons c r => exact ⟨c, r, rfl⟩
        have hc0 : (S l).cps[0]? = some c := S_at (by rw [e]; rfl)
        have two : ∀ Q' : Bool → Hp → Prop, Q' (decide (c ∈ lets)) H → tTest (tChain (fun x y H Q => ∃ a b : Nat, x = .str ⟨#[a]⟩ ∧ y = .str ⟨#[b]⟩ ∧ Q (.bl (decide (a ≤ b))) H) (fun x y H Q => ∃ a b : Nat, x = .str ⟨#[a]⟩ ∧ y = .str ⟨#[b]⟩ ∧ Q (.bl (decide (a ≤ b))) H)
            (tC (.str "a")) (tC (.str ⟨#[c]⟩)) (tC (.str "z"))) [some (.str (S l)), none] H Q' := fun Q' hQ => by
          refine ⟨97, c, by rw [s_a], rfl, _, rfl, ?_⟩
          by_cases ha : 97 ≤ c
          · refine if_true_of (decide_eq_true ha) ⟨c, 122, rfl, by rw [s_z], _, rfl, ?_⟩
            have : decide (c ≤ 122) = decide (c ∈ lets) := by
              by_cases hb : c ≤ 122
              · rw [decide_eq_true hb, decide_eq_true ((mem_lets c).mpr ⟨ha, hb⟩)]
              · rw [decide_eq_false hb, decide_eq_false (fun z => hb ((mem_lets c).mp z).2)]
            rw [this]
            exact hQ
          · refine if_false_of (decide_eq_false ha) ⟨_, rfl, ?_⟩
            rw [decide_eq_false (fun z => ha ((mem_lets c).mp z).1)] at hQ
            exact hQ
        refine ⟨_, rfl, S l, 0, c, rfl, rfl, by decide, by decide, by rw [S_len]; omega, hc0, ?_⟩
        refine two _ ?_
        by_cases hc : c ∈ lets
        · refine if_false_of (by rw [decide_eq_true hc]; rfl) ?_
          have hw : isWord l = l.all fun c => decide (c ∈ lets ++ figs) := isWord_rest h1 h2 (by rw [e]; exact decide_eq_true hc)
          refine ⟨_, rfl, S l, rfl, fun D hD => lc_it walk_str (fun i H' => Same H H' ∧ H' D = some (.lst (odd (l.take i)))) ⟨fun b o e => ?_, upd_same⟩ (fun _ _ _ _ => trivial) ?_ ?_⟩
          · rw [upd_ne (ne_of_none e hD)]; exact e
          · rintro i x H1 H2 hi ⟨s2, hd⟩ ⟨rfl, c', hc', rfl⟩
            have hc2 : l[i]? = some c' := by
              have : (l.toArray)[i]? = some c' := hc'
              rw [List.getElem?_toArray] at this
              exact this
            have etake : l.take (i + 1) = l.take i ++ [c'] := by rw [List.take_add_one, hc2]; rfl
            refine ⟨rfl, _, rfl, c', _, rfl, rfl, _, rfl, ?_⟩
            rw [s_lf, S_list]
            by_cases m1 : c' ∈ lets ++ figs
            · refine if_false_of (by rw [decide_eq_true m1]; rfl) ?_
              refine ⟨s2, ?_⟩
              rw [etake, odd_snoc, if_pos m1]
              exact hd
            · refine if_true_of (by rw [decide_eq_false m1]; rfl) ?_
              refine ⟨_, hd, by have h9 := odd_len (l.take i); rw [List.length_take] at h9; omega, fun b' o' e' => ?_, ?_⟩
              · have : b' ≠ D := fun z => by rw [z, hD] at e'; cases e'
                rw [upd_ne this]; exact s2 _ _ e'
              · rw [upd_same, etake, odd_snoc, if_neg m1]
          · rintro H' ⟨s2, hd⟩
            have e3 : l.take (S l).cps.size = l := List.take_of_length_le (by show l.length ≤ l.toArray.size; simp)
            rw [e3] at hd
            refine ⟨by show 0 ≤ sizeLine; omega, fun u hu => ?_⟩
            have s3 := same_upd (o := .lst []) hu
            refine ⟨D, u, _, rfl, rfl, SqL.of (s3 _ _ hd), SqL.of upd_same, ?_⟩
            show Q (.bl (odd l).isEmpty) _
            rw [odd_nil, ← hw]
            exact q _ (s2.trans s3)
        · refine if_true_of (by rw [decide_eq_false hc]; rfl) ?_
          have e4 : isWord l = false := isWord_head (by rw [e]; exact decide_eq_false hc)
          show Q (.bl false) _
          rw [← e4]
          exact q _ (Same.refl _)
      · refine if_true_of (by rw [decide_eq_false (by omega)]; rfl) ?_
        refine if_true_of rfl ?_
        show Q (.bl false) _
        rw [← isWord_long (fun z => h2 z.2)]
        exact q _ (Same.refl _)
    · refine if_false_of (decide_eq_false (by omega)) ?_
      refine ⟨_, rfl, if_true_of rfl ?_⟩
      show Q (.bl false) _
      rw [← isWord_long (fun z => h1 z.1)]
      exact q _ (Same.refl _)
/-- a lexeme as the law holds it -/
def lkV (L : Lx) : List V := [.str (S (lk L)), .str (S L.s), .int (L.p : Nat)]
theorem s_end : ("END" : Str) = S wEnd := by decide +kernel
theorem s_N : ("N" : Str) = S [78] := by decide +kernel
theorem s_W : ("W" : Str) = S [87] := by decide +kernel
def spLLex : Sp := fun vs H Q _ => ∃ (cs : Cs) (p : Nat), vs = [.str (S cs), .int p] ∧ p ≤ cs.length ∧ cs.length < sizeLine ∧ ∀ H' t, Same H H' → H t = none → H' t = some (.lst (lkV (lexAt cs p))) → Q (.ref t) H'
theorem scLLex : FnScope ["_law_text", "_law_place", "_law_figures", "_law_end", "_law_word"] ["_law_text", "_law_place"] (defScope sLLex) := ⟨rfl, rfl, rfl, by decide +kernel, rfl, by decide +kernel, by decide +kernel⟩
theorem ok_llex {f fR fW : Addr} {fd fdR fdW : FuncData} (F : Fun K "_law_lexeme" "_law_lexeme" sLLex f fd) (T : GT K mg) (NR : Fn K mg "_law_run" sLRun fR fdR ["_law_text", "_law_place", "_law_signs"]) (NW : Fn K mg "_law_is_word" sLWord fW fdW ["_law_value"]) :
    FnOk P w K mg base CX0 2 f fd ["_law_text", "_law_place"] spLLex := by
  have GR : FnOk P w K mg base CX0 1 fR fdR ["_law_text", "_law_place", "_law_signs"] spRun := ok_lrun NR.F T.len
  have GW : FnOk P w K mg base CX0 1 fW fdW ["_law_value"] spWord := ok_lword NW.F T
  refine F.ok scLLex (fun vs H Q E h => ?_) (fun cdv A outer s H vs Q E hr h => ?_)
  · obtain ⟨l, p, rfl, _⟩ := h
    rfl
  · obtain ⟨cs, p0, rfl, hp0, hz, q⟩ := h
    refine ⟨_, pss_cons (ps_set (i := 2) scLLex.nd rfl (Or.inl rfl) pe_str)
      (pss_cons (ps_set (i := 1) scLLex.nd rfl (Or.inl rfl) (pe_call GR hr (by rfl) NR.g NR.F.kp NR.b .nil pass0 (pa_cons (pv 0) (pa_cons (pv 1) (pa_cons pe_str pa_nil)))))
      (pss_cons (ps_if (pt_cmpR op_eq (pv 1) (pe_callB call_len_str (by rfl) T.len PySem.boot_len (pa_cons (pv 0) pa_nil)) (nomark _)) (pss_one (ps_ret (pe_lst (pa_cons pe_str (pa_cons pe_str (pa_cons (pv 1) pa_nil)))))) pss_nil)
      (pss_cons (ps_if (pt_cmpR op_in_sign (pe_item_str (pv 0) (pv 1) (fun _ _ => rfl)) pe_str (by rfl)) (pss_one (ps_ret (pe_lst (pa_cons (pe_item_str (pv 0) (pv 1) (fun _ _ => rfl)) (pa_cons (pe_item_str (pv 0) (pv 1) (fun _ _ => rfl)) (pa_cons (pv 1) pa_nil)))))) pss_nil)
      (pss_cons (ps_if (pt_cmpR op_in_sign (pe_item_str (pv 0) (pv 1) (fun _ _ => rfl)) (pv 2) (by rfl))
        (pss_cons (ps_set (i := 3) scLLex.nd rfl (Or.inl rfl) (pe_ifExp (pt_cmpR op_eq (pe_item_str (pv 0) (pv 1) (fun _ _ => rfl)) pe_str (nomark _)) (pe_op op_add (pv 1) pe_int)
            (pe_call GR hr (by rfl) NR.g NR.F.kp NR.b .nil pass0 (pa_cons (pv 0) (pa_cons (pv 1) (pa_cons (pv 2) pa_nil))))))
        (pss_one (ps_ret (pe_lst (pa_cons pe_str (pa_cons (pe_slice sl_str (pv 0) (po_some (pv 1)) (po_some (pv 3))) (pa_cons (pv 1) pa_nil))))))) pss_nil)
      (pss_cons (ps_set (i := 4) scLLex.nd rfl (Or.inl rfl) (pe_slice sl_str (pv 0) (po_some (pv 1)) (po_some
            (pe_call GR hr (by rfl) NR.g NR.F.kp NR.b .nil pass0 (pa_cons (pv 0) (pa_cons (pv 1) (pa_cons (pe_op op_add_str pe_str (pv 2)) pa_nil)))))))
      (pss_one (ps_ret (pe_ifExp (pt_val (pe_call GW hr (by rfl) NW.g NW.F.kp NW.b .nil pass0 (pa_cons (pv 4) pa_nil))) (pe_lst (pa_cons pe_str (pa_cons (pv 4) (pa_cons (pv 1) pa_nil)))) (pe_lst (pa_cons pe_str (pa_cons pe_str (pa_cons (pv 1) pa_nil)))))))))))), ?_⟩
    have z0 : sizeLine = 16777216 := sizeLine_eq
    have hle := runEnd_le (sg := blanks) hp0
    have z3 : (3 : Nat) ≤ sizeLine := by omega
    refine ⟨_, rfl, _, rfl, cs, blanks, p0, by rw [s_blanks] <;> rfl, hp0, hz, ?_⟩
    refine ⟨_, rfl, _, rfl, S cs, rfl, by rw [S_len]; omega, rfl, _, rfl, ?_⟩
    rw [S_len]
    by_cases hf : runEnd cs p0 blanks = cs.length
    · refine if_true_of (decide_eq_true (by rw [hf])) ?_
      refine ⟨_, rfl, z3, fun t ht => ?_⟩
      refine q _ t (same_upd ht) ht ?_
      rw [upd_same, lexAt_fin (by rw [hf]; simp), s_end, s_nil]
      rfl
    · refine if_false_of (decide_eq_false fun z => hf (by have := V.int.inj z; omega)) ?_
      have hlt : runEnd cs p0 blanks < cs.length := by omega
      obtain ⟨c, hc⟩ : ∃ c, cs[runEnd cs p0 blanks]? = some c := ⟨_, List.getElem?_eq_getElem hlt⟩
      refine ⟨_, rfl, _, rfl, S cs, (runEnd cs p0 blanks : Nat), c, rfl, rfl, by omega, by omega, by rw [S_len]; omega, S_at hc, ?_⟩
      refine ⟨c, _, rfl, rfl, _, rfl, ?_⟩
      rw [s_signs, S_list]
      by_cases h1 : c ∈ signs
      · refine if_true_of (decide_eq_true h1) ?_
        refine ⟨_, rfl, _, rfl, S cs, (runEnd cs p0 blanks : Nat), c, rfl, rfl, by omega, by omega, by rw [S_len]; omega, S_at hc, ?_⟩
        refine ⟨_, rfl, _, rfl, S cs, (runEnd cs p0 blanks : Nat), c, rfl, rfl, by omega, by omega, by rw [S_len]; omega, S_at hc, ?_⟩
        refine ⟨_, rfl, z3, fun t ht => ?_⟩
        refine q _ t (same_upd ht) ht ?_
        rw [upd_same, lexAt_sgn hc h1]
        rfl
      · refine if_false_of (decide_eq_false h1) ?_
        refine ⟨_, rfl, _, rfl, S cs, (runEnd cs p0 blanks : Nat), c, rfl, rfl, by omega, by omega, by rw [S_len]; omega, S_at hc, ?_⟩
        refine ⟨_, rfl, c, _, rfl, rfl, _, rfl, ?_⟩
        rw [s_figs, S_list]
        by_cases h2 : c ∈ figs
        · refine if_true_of (decide_eq_true h2) ?_
          have fin : ∀ b : Nat, b ≤ cs.length → cut cs (runEnd cs p0 blanks) b = numAt cs (runEnd cs p0 blanks) c → ∀ t, H t = none → Q (.ref t) (upd H t (.lst [.str "N", .str (cutS (S cs) (some (runEnd cs p0 blanks : Nat)) (some (b : Nat))), .int (runEnd cs p0 blanks : Nat)])) := fun b hb e t ht => by
            refine q _ t (same_upd ht) ht ?_
            rw [upd_same, lexAt_num hc h1 h2, s_N, cut_S hle hb, e] <;> rfl
          refine ⟨_, rfl, _, rfl, S cs, (runEnd cs p0 blanks : Nat), c, rfl, rfl, by omega, by omega, by rw [S_len]; omega, S_at hc, rfl, _, rfl, ?_⟩
          rw [s_zero]
          by_cases h3 : c = 48
          · refine if_true_of (decide_eq_true (by rw [h3] <;> rfl)) ?_
            refine ⟨_, rfl, _, _, rfl, rfl, _, rfl, _, rfl, _, rfl, _, rfl, _, rfl, S cs, rfl, by rw [S_len]; omega, _, rfl, z3, ?_⟩
            refine fin (runEnd cs p0 blanks + 1) hlt ?_
            unfold numAt
            rw [if_pos h3]
          · refine if_false_of (decide_eq_false fun z => h3 (by have := S_inj (a := [c]) (V.str.inj z); exact (List.cons.inj this).1)) ?_
            refine ⟨_, rfl, _, rfl, _, rfl, cs, figs, _, rfl, hle, hz, _, rfl, _, rfl, _, rfl, _, rfl, _, rfl, S cs, rfl, by rw [S_len]; omega, _, rfl, z3, ?_⟩
            refine fin (runEnd cs (runEnd cs p0 blanks) figs) (runEnd_le hle) ?_
            unfold numAt
            rw [if_neg h3]
        · refine if_false_of (decide_eq_false h2) ?_
          have hle2 := runEnd_le (sg := lets ++ figs) hle
          refine ⟨_, rfl, _, rfl, _, rfl, _, rfl, _, rfl, _, rfl, S lets, S figs, by rw [s_lets], rfl, by decide, cs, lets ++ figs, runEnd cs p0 blanks, by rw [S_cat]; rfl, hle, hz, _, rfl, S cs, rfl, by rw [S_len]; omega, ?_⟩
          have er : cutS (S cs) (some (runEnd cs p0 blanks : Nat)) (some (runEnd cs (runEnd cs p0 blanks) (lets ++ figs) : Nat)) = S (runAt cs (runEnd cs p0 blanks)) := cut_S hle hle2
          rw [er]
          have hlr : (runAt cs (runEnd cs p0 blanks)).length < sizeLine := by
            unfold runAt
            rw [cut_length (le_runEnd _ _ _) hle2]
            omega
          refine ⟨_, rfl, _, rfl, hlr, fun H1 s1 => ⟨_, rfl, ?_⟩⟩
          cases hw : isWord (runAt cs (runEnd cs p0 blanks)) with
          | true =>
            refine iteT ?_
            refine ⟨_, rfl, _, rfl, z3, fun t ht => ?_⟩
            refine q _ t (s1.trans (same_upd ht)) (s1.free ht) ?_
            rw [upd_same, lexAt_wrd hc h1 h2 hw, s_W]
            rfl
          | false =>
            refine iteF ?_
            refine ⟨_, rfl, z3, fun t ht => ?_⟩
            refine q _ t (s1.trans (same_upd ht)) (s1.free ht) ?_
            rw [upd_same, lexAt_bad hc h1 h2 hw, s_bad, s_nil]
            rfl
end
end K10
set_option maxHeartbeats 4000000
namespace K10
open PySem PySem.Spec PyProof.Rows L2
open SX (S S_len S_inj S_cat)
abbrev sRules : Stmt := tp 43
def lstS (l : List Cs) : List V := l.map fun s => .str (S s)
def LstAt (H : Hp) (v : V) (l : List Cs) : Prop := ∃ p, v = .ref p ∧ H p = some (.lst (lstS l))
def FstAt (H : Hp) (v : V) : Option (List Cs) → Prop
  | none => v = .non
  | some l => LstAt H v l
def RowAt (H : Hp) (v : V) (r : Row) : Prop := ∃ p x y, v = .ref p ∧ H p = some (.lst [x, y]) ∧ FstAt H x r.1 ∧ LstAt H y r.2
inductive RowsV (H : Hp) : List V → List Row → Prop where
  | nil : RowsV H [] []
  | cons {v : V} {vs : List V} {r : Row} {rs : List Row} (h : RowAt H v r) (t : RowsV H vs rs) : RowsV H (v :: vs) (r :: rs)
def RowsAt (H : Hp) (v : V) (rs : List Row) : Prop := ∃ p vs, v = .ref p ∧ H p = some (.lst vs) ∧ RowsV H vs rs
/-- at a stands no list -/
def NoLst (H : Hp) (a : Addr) : Prop := ∀ xs, H a ≠ some (.lst xs)
theorem NoLst.ne {H : Hp} {a p : Addr} {xs : List V} (n : NoLst H a) (h : H p = some (.lst xs)) : p ≠ a := fun z => n xs (by rw [← z]; exact h)
theorem LstAt.kp {H H' : Hp} {a : Addr} (k : Kp a H H') (na : NoLst H a) {v : V} {l : List Cs} (x : LstAt H v l) : LstAt H' v l := by
  obtain ⟨p, e, h⟩ := x
  exact ⟨p, e, k _ _ h (na.ne h)⟩
theorem FstAt.kp {H H' : Hp} {a : Addr} (k : Kp a H H') (na : NoLst H a) {v : V} {f : Option (List Cs)} (x : FstAt H v f) : FstAt H' v f := by
  cases f with
  | none => exact x
  | some l => exact LstAt.kp k na x
theorem RowAt.kp {H H' : Hp} {a : Addr} (k : Kp a H H') (na : NoLst H a) {v : V} {r : Row} (x : RowAt H v r) : RowAt H' v r := by
  obtain ⟨p, x, y, e, h, h1, h2⟩ := x
  exact ⟨p, x, y, e, k _ _ h (na.ne h), h1.kp k na, h2.kp k na⟩
theorem RowsV.kp {H H' : Hp} {a : Addr} (k : Kp a H H') (na : NoLst H a) {v : List V} {r : List Row} (x : RowsV H v r) : RowsV H' v r := by
  induction x with
  | nil => exact .nil
  | cons h _ i => exact .cons (h.kp k na) i
theorem RowsAt.kp {H H' : Hp} {a : Addr} (k : Kp a H H') (na : NoLst H a) {v : V} {r : List Row} (x : RowsAt H v r) : RowsAt H' v r := by
  obtain ⟨p, vs, e, h, t⟩ := x
  exact ⟨p, vs, e, k _ _ h (na.ne h), t.kp k na⟩
theorem LstAt.same {H H' : Hp} (k : Same H H') {v : V} {l : List Cs} (x : LstAt H v l) : LstAt H' v l := by
  obtain ⟨p, e, h⟩ := x
  exact ⟨p, e, k _ _ h⟩
theorem FstAt.same {H H' : Hp} (k : Same H H') {v : V} {f : Option (List Cs)} (x : FstAt H v f) : FstAt H' v f := by
  cases f with
  | none => exact x
  | some l => exact LstAt.same k x
theorem RowAt.same {H H' : Hp} (k : Same H H') {v : V} {r : Row} (x : RowAt H v r) : RowAt H' v r := by
  obtain ⟨p, x, y, e, h, h1, h2⟩ := x
  exact ⟨p, x, y, e, k _ _ h, h1.same k, h2.same k⟩
theorem RowsV.same {H H' : Hp} (k : Same H H') {v : List V} {r : List Row} (x : RowsV H v r) : RowsV H' v r := by
  induction x with
  | nil => exact .nil
  | cons h _ i => exact .cons (h.same k) i
theorem RowsAt.same {H H' : Hp} (k : Same H H') {v : V} {r : List Row} (x : RowsAt H v r) : RowsAt H' v r := by
  obtain ⟨p, vs, e, h, t⟩ := x
  exact ⟨p, vs, e, k _ _ h, t.same k⟩
inductive Tab (H : Hp) : List (L2.Key × V) → List NT → Prop where
  | nil : Tab H [] []
  | cons {v : V} {n : NT} {kvs : List (L2.Key × V)} {ns : List NT} (h : RowsAt H v (rowsOf n)) (t : Tab H kvs ns) : Tab H ((.inr (S (ntS n)), v) :: kvs) (n :: ns)
theorem Tab.kp {H H' : Hp} {a : Addr} (k : Kp a H H') (na : NoLst H a) {kvs : List (L2.Key × V)} {ns : List NT} (x : Tab H kvs ns) : Tab H' kvs ns := by
  induction x with
  | nil => exact .nil
  | cons h _ i => exact .cons (h.kp k na) i
theorem Tab.same {H H' : Hp} (k : Same H H') {kvs : List (L2.Key × V)} {ns : List NT} (x : Tab H kvs ns) : Tab H' kvs ns := by
  induction x with
  | nil => exact .nil
  | cons h _ i => exact .cons (h.same k) i
theorem Tab.len {H : Hp} {kvs : List (L2.Key × V)} {ns : List NT} (x : Tab H kvs ns) : kvs.length = ns.length := by
  induction x with
  | nil => rfl
  | cons _ _ i => exact congrArg Nat.succ i
theorem Tab.snoc {H : Hp} {kvs : List (L2.Key × V)} {ns : List NT} (x : Tab H kvs ns) {v : V} {n : NT} (h : RowsAt H v (rowsOf n)) : Tab H (kvs ++ [(.inr (S (ntS n)), v)]) (ns ++ [n]) := by
  induction x with
  | nil => exact .cons h .nil
  | cons h' _ i => exact .cons h' i
theorem ntS_inj {n m : NT} (h : ntS n = ntS m) : n = m := by
  have := ntOf_nt n
  rw [h, ntOf_nt] at this
  exact (Option.some.inj this).symm
theorem key_inj {a b : Cs} : (Sum.inr (S a) : L2.Key) = .inr (S b) ↔ a = b := ⟨fun z => S_inj (Sum.inr.inj z), fun z => by rw [z]⟩
theorem Tab.get {H : Hp} {kvs : List (L2.Key × V)} {ns : List NT} (x : Tab H kvs ns) {n : NT} (hn : n ∈ ns) : ∃ v, valV kvs (.inr (S (ntS n))) = some v ∧ RowsAt H v (rowsOf n) := by
  induction x with
  | nil => cases hn
  | @cons v m kvs ns h t i =>
    by_cases e : ntS m = ntS n
    · have := ntS_inj e
      subst this
      exact ⟨v, valV_pos rfl, h⟩
    · rw [valV_neg (fun z => e (key_inj.mp z))]
      rcases List.mem_cons.mp hn with z | z
      · exact absurd (by rw [z]) e
      · exact i z
theorem Tab.none {H : Hp} {kvs : List (L2.Key × V)} {ns : List NT} (x : Tab H kvs ns) {s : Cs} (hs : ∀ n ∈ ns, ntS n ≠ s) : valV kvs (.inr (S s)) = Option.none := by
  induction x with
  | nil => rfl
  | @cons v m kvs ns h t i =>
    rw [valV_neg (fun z => hs m (List.Mem.head _) (key_inj.mp z))]
    exact i fun n hn => hs n (List.Mem.tail _ hn)
theorem Tab.put {H : Hp} {kvs : List (L2.Key × V)} {ns : List NT} (x : Tab H kvs ns) {n : NT} {v : V} (hs : ∀ m ∈ ns, ntS m ≠ ntS n) : putK kvs (.inr (S (ntS n))) v = kvs ++ [(.inr (S (ntS n)), v)] := by
  unfold putK
  rw [valV_any, x.none hs]
  rfl
/-- the table at a -/
def RulesAt (H : Hp) (a : Addr) : Prop := ∃ kvs, H a = some (.dK kvs) ∧ Tab H kvs allNT
theorem RulesAt.same {H H' : Hp} {a : Addr} (x : RulesAt H a) (k : Same H H') : RulesAt H' a := by
  obtain ⟨kvs, h, t⟩ := x
  exact ⟨kvs, k _ _ h, t.same k⟩
theorem mem_all (n : NT) : n ∈ allNT := by
  cases n with
  | f m => cases m <;> simp [allNT]
  | _ => simp [allNT]
def Lit (t : TE) (R : V → Hp → Prop) : Prop := ∀ σ H Q, (∀ v H', Same H H' → R v H' → Q v H') → t σ H Q
theorem le100 {n : Nat} (h : n ≤ 100) : n ≤ sizeLine := by rw [sizeLine_eq]; omega
theorem lit_non : Lit (tC .non) (fun v H => FstAt H v none) := fun σ H Q h => h _ _ (Same.refl _) rfl
theorem lit_strs {t : TA} {xs : List V} {l : List Cs} (ht : ∀ (σ : L2.St) (H : Hp) (Q : List V → Hp → Prop), Q xs H → t σ H Q) (e : xs = lstS l) (hl : xs.length ≤ 100) : Lit (tLst t) (fun v H => LstAt H v l) := fun σ H Q h =>
  ht σ H _ ⟨le100 hl, fun p hp => h _ _ (same_upd hp) ⟨p, rfl, by rw [upd_same, e]⟩⟩
theorem lit_row {t1 t2 : TE} {f : Option (List Cs)} {l : List Cs} (h1 : Lit t1 (fun v H => FstAt H v f)) (h2 : Lit t2 (fun v H => LstAt H v l)) : Lit (tLst (tCons t1 (tCons t2 tNil))) (fun v H => RowAt H v (f, l)) := fun σ H Q h =>
  h1 σ H _ fun v1 H1 s1 r1 => h2 σ H1 _ fun v2 H2 s2 r2 => ⟨le100 (by show 2 ≤ 100; omega), fun p hp => h _ _ ((s1.trans s2).trans (same_upd hp)) ⟨p, v1, v2, rfl, upd_same, (r1.same s2).same (same_upd hp), r2.same (same_upd hp)⟩⟩
theorem lit_rows1 {t : TE} {r : Row} (h1 : Lit t (fun v H => RowAt H v r)) : Lit (tLst (tCons t tNil)) (fun v H => RowsAt H v [r]) := fun σ H Q h =>
  h1 σ H _ fun v1 H1 s1 r1 => ⟨le100 (by show 1 ≤ 100; omega), fun p hp => h _ _ (s1.trans (same_upd hp)) ⟨p, [v1], rfl, upd_same, .cons (r1.same (same_upd hp)) .nil⟩⟩
theorem lit_two {t1 t2 : TE} {r1 r2 : Row} (h1 : Lit t1 (fun v H => RowAt H v r1)) (h2 : Lit t2 (fun v H => RowAt H v r2)) : ∀ (σ : L2.St) (H : Hp) (Q : VK), (∀ p v1 v2 H', Same H H' → H' p = none → RowAt H' v1 r1 → RowAt H' v2 r2 → Q (.ref p) (upd H' p (.lst [v1, v2]))) →
    tLst (tCons t1 (tCons t2 tNil)) σ H Q := fun σ H Q h =>
  h1 σ H _ fun v1 H1 s1 r1 => h2 σ H1 _ fun v2 H2 s2 r2 => ⟨le100 (by show 2 ≤ 100; omega), fun p hp => h p v1 v2 H2 (s1.trans s2) hp (r1.same s2) r2⟩
theorem lit_rows2 {t1 t2 : TE} {r1 r2 : Row} (h1 : Lit t1 (fun v H => RowAt H v r1)) (h2 : Lit t2 (fun v H => RowAt H v r2)) : Lit (tLst (tCons t1 (tCons t2 tNil))) (fun v H => RowsAt H v [r1, r2]) := fun σ H Q h =>
  lit_two h1 h2 σ H Q fun p v1 v2 H' s hp a b => h _ _ (s.trans (same_upd hp)) ⟨p, [v1, v2], rfl, upd_same, .cons (a.same (same_upd hp)) (.cons (b.same (same_upd hp)) .nil)⟩
section
variable {P : Program} {w : World} {K : PySem.W.Frag} {mg : Str → Option Value} {base : Heap}
def spRules : Sp := fun vs H Q _ => vs = [] ∧ ∀ a H', Same H H' → H a = none → RulesAt H' a → Q (.ref a) H'
theorem scRules : FnScope ["_law_rules_here"] [] (defScope sRules) := ⟨rfl, rfl, rfl, by decide +kernel, rfl, by decide +kernel, by decide +kernel⟩
/-- d["X"] = rows, the table so far -/
structure Acc (H0 : Hp) (a : Addr) (H : Hp) (ns : List NT) : Prop where
  tab : ∃ kvs, H a = some (.dK kvs) ∧ Tab H kvs ns
  kp : Kp a H0 H
theorem Acc.noL {H0 H : Hp} {a : Addr} {ns : List NT} (x : Acc H0 a H ns) : NoLst H a := by
  obtain ⟨kvs, h, _⟩ := x.tab
  intro xs z
  rw [h] at z
  cases z
theorem Acc.step {H0 H : Hp} {a : Addr} {ns : List NT} (x : Acc H0 a H ns) {tv : TE} {nm : Str} {n : NT} (L : Lit tv (fun v H => RowsAt H v (rowsOf n))) (e : nm = S (ntS n)) (hn : ∀ m ∈ ns, ntS m ≠ ntS n) (hl : ns.length ≤ 100) {D : Ends} (q : ∀ H', Acc H0 a H' (ns ++ [n]) → D.nx [some (.ref a)] H') :
    sDPut (tVar 0) (tC (.str nm)) tv D [some (.ref a)] H := by
  obtain ⟨kvs, h, t⟩ := x.tab
  refine L _ _ _ fun v H1 s1 r1 => ⟨_, rfl, a, _, rfl, .inl ⟨kvs, .inr nm, s1 _ _ h, rfl, by rw [t.len, sizeLine_eq]; omega, rfl⟩, q _ ?_⟩
  have na : NoLst H1 a := fun xs z => by rw [s1 _ _ h] at z; cases z
  have k : Kp a H1 (upd H1 a (.dK (putK kvs (.inr nm) v))) := Kp.upd
  subst e
  refine ⟨⟨_, upd_same, ?_⟩, (x.kp.trans (Kp.of s1)).trans k⟩
  rw [t.put hn]
  rw [t.put hn] at k
  exact ((t.same s1).kp k na).snoc (r1.kp k na)
theorem Acc.two {H0 H : Hp} {a : Addr} {ns : List NT} (x : Acc H0 a H ns) {t1 t2 : TE} {r1 r2 : Row} {nm : Str} {n : NT} (h1 : Lit t1 (fun v H => RowAt H v r1)) (h2 : Lit t2 (fun v H => RowAt H v r2)) (e : nm = S (ntS n)) (hn : ∀ m ∈ ns, ntS m ≠ ntS n) (hl : ns.length ≤ 100) {D : Ends}
    (q : ∀ p v1 v2 H' kvs, Same H H' → H' p = none → RowAt H' v1 r1 → RowAt H' v2 r2 → Tab H kvs ns → H' a = some (.dK kvs) → p ≠ a → D.nx [some (.ref a)] (upd (upd H' p (.lst [v1, v2])) a (.dK (kvs ++ [(.inr (S (ntS n)), .ref p)])))) :
    sDPut (tVar 0) (tC (.str nm)) (tLst (tCons t1 (tCons t2 tNil))) D [some (.ref a)] H := by
  obtain ⟨kvs, h, t⟩ := x.tab
  refine lit_two h1 h2 _ _ _ fun p v1 v2 H' s' hp ra rb => ?_
  have h' := s' _ _ h
  have hpa : p ≠ a := fun z => by rw [z, h'] at hp; cases hp
  refine ⟨_, rfl, a, _, rfl, .inl ⟨kvs, .inr nm, by rw [upd_ne hpa.symm]; exact h', rfl, by rw [t.len, sizeLine_eq]; omega, rfl⟩, ?_⟩
  subst e
  rw [t.put hn]
  exact q p v1 v2 H' kvs s' hp ra rb t h' hpa
theorem valV_snoc {k : L2.Key} {v : V} : ∀ {kvs : List (L2.Key × V)}, valV kvs k = none → valV (kvs ++ [(k, v)]) k = some v
  | [], _ => valV_pos rfl
  | kv :: r, h => by
    by_cases e : kv.1 = k
    · rw [valV_pos e] at h
      cases h
    · rw [valV_neg e] at h
      rw [List.cons_append, valV_neg e]
      exact valV_snoc h
theorem lit_pairs2 {t1 t2 : TE} {k1 k2 : V} {R1 R2 : V → Hp → Prop} (h1 : Lit t1 R1) (h2 : Lit t2 R2) : ∀ (σ : L2.St) (H : Hp) (Q : List (V × V) → Hp → Prop), (∀ v1 H1 v2 H2, Same H H1 → R1 v1 H1 → Same H1 H2 → R2 v2 H2 → Q [(k1, v1), (k2, v2)] H2) → tPairs [(tC k1, t1), (tC k2, t2)] σ H Q :=
  fun σ H Q h => h1 σ H _ fun v1 H1 s1 r1 => h2 σ H1 _ fun v2 H2 s2 r2 => h v1 H1 v2 H2 s1 r1 s2 r2
theorem s_TABLES : ("TABLES" : Str) = S wTABLES := by decide +kernel
theorem s_SHAPE : ("SHAPE" : Str) = S wSHAPE := by decide +kernel
theorem s_TABLE : ("TABLE" : Str) = S wTABLE := by decide +kernel
theorem s_ENTRIES : ("ENTRIES" : Str) = S wENTRIES := by decide +kernel
theorem s_LAST : ("LAST" : Str) = S wLAST := by decide +kernel
theorem s_ROUND : ("ROUND" : Str) = S wROUND := by decide +kernel
theorem ok_rules {f : Addr} {fd : FuncData} (F : Fun K "_law_rules" "_law_rules" sRules f fd) : FnOk P w K mg base CX0 1 f fd [] spRules := by
  refine F.ok scRules (fun vs H Q E h => ?_) (fun cdv A outer s H vs Q E hr h => ?_)
  · obtain ⟨rfl, _⟩ := h
    rfl
  · obtain ⟨rfl, q⟩ := h
    have hu : (A.deeper (envOfC "_law_rules" (defScope sRules) s.heap.objs.size f cdv)).units + 1 < cLine := by have := hr.units; omega
    refine ⟨_, pss_cons (ps_set (i := 0) scRules.nd rfl (Or.inl rfl) (pe_disp (pps_cons pe_str (pe_lst (pa_cons (pe_lst (pa_cons pe_non (pa_cons (pe_lst (pa_cons pe_str (pa_cons pe_str pa_nil))) pa_nil))) pa_nil)) (pps_cons pe_str (pe_lst (pa_cons (pe_lst (pa_cons pe_non (pa_cons (pe_lst (pa_cons pe_str (pa_cons pe_str pa_nil))) pa_nil))) pa_nil)) pps_nil)) rfl rfl (by intro z; cases z) (show 2 ≤ 15 from by decide)))
      (pss_cons (ps_dput hu (pv 0) pe_str (pe_lst (pa_cons (pe_lst (pa_cons pe_non (pa_cons (pe_lst (pa_cons pe_str (pa_cons pe_str (pa_cons pe_str (pa_cons pe_str (pa_cons pe_str (pa_cons pe_str pa_nil))))))) pa_nil))) pa_nil)) (by rfl))
      (pss_cons (ps_dput hu (pv 0) pe_str (pe_lst (pa_cons (pe_lst (pa_cons (pe_lst (pa_cons pe_str pa_nil)) (pa_cons (pe_lst (pa_cons pe_str (pa_cons pe_str (pa_cons pe_str (pa_cons pe_str pa_nil))))) pa_nil))) (pa_cons (pe_lst (pa_cons pe_non (pa_cons (pe_lst (pa_cons pe_str pa_nil)) pa_nil))) pa_nil))) (by rfl))
      (pss_cons (ps_dput hu (pv 0) pe_str (pe_lst (pa_cons (pe_lst (pa_cons pe_non (pa_cons (pe_lst (pa_cons pe_str (pa_cons pe_str (pa_cons pe_str (pa_cons pe_str (pa_cons pe_str (pa_cons pe_str pa_nil))))))) pa_nil))) pa_nil)) (by rfl))
      (pss_cons (ps_dput hu (pv 0) pe_str (pe_lst (pa_cons (pe_lst (pa_cons (pe_lst (pa_cons pe_str pa_nil)) (pa_cons (pe_lst pa_nil) pa_nil))) (pa_cons (pe_lst (pa_cons pe_non (pa_cons (pe_lst (pa_cons pe_str (pa_cons pe_str (pa_cons pe_str pa_nil)))) pa_nil))) pa_nil))) (by rfl))
      (pss_cons (ps_dput hu (pv 0) pe_str (pe_lst (pa_cons (pe_lst (pa_cons (pe_lst (pa_cons pe_str pa_nil)) (pa_cons (pe_lst (pa_cons pe_str (pa_cons pe_str pa_nil))) pa_nil))) (pa_cons (pe_lst (pa_cons pe_non (pa_cons (pe_lst pa_nil) pa_nil))) pa_nil))) (by rfl))
      (pss_cons (ps_dput hu (pv 0) pe_str (pe_lst (pa_cons (pe_lst (pa_cons (pe_lst (pa_cons pe_str pa_nil)) (pa_cons (pe_lst (pa_cons pe_str (pa_cons pe_str (pa_cons pe_str (pa_cons pe_str (pa_cons pe_str pa_nil)))))) pa_nil))) (pa_cons (pe_lst (pa_cons (pe_lst (pa_cons pe_str pa_nil)) (pa_cons (pe_lst (pa_cons pe_str (pa_cons pe_str pa_nil))) pa_nil))) pa_nil))) (by rfl))
      (pss_cons (ps_expr (pe_bm PySem.F.plainAttrs_list PySem.F.slot_list_append PySem.F.type_list_append mt_append (pe_dget hu (pv 0) pe_str (fun _ _ => rfl)) (by exact (pa_cons (pe_lst (pa_cons pe_non (pa_cons (pe_lst (pa_cons pe_str (pa_cons pe_str pa_nil))) pa_nil))) pa_nil))))
      (pss_cons (ps_dput hu (pv 0) pe_str (pe_lst (pa_cons (pe_lst (pa_cons (pe_lst (pa_cons pe_str pa_nil)) (pa_cons (pe_lst pa_nil) pa_nil))) (pa_cons (pe_lst (pa_cons pe_non (pa_cons (pe_lst (pa_cons pe_str (pa_cons pe_str pa_nil))) pa_nil))) pa_nil))) (by rfl))
      (pss_one (ps_ret (pv 0))))))))))), ?_⟩
    refine fun a ha => ?_
    refine lit_pairs2 (lit_rows1 (lit_row (f := none) lit_non (lit_strs (t := (tCons (tC (.str "SHAPE")) (tCons (tC (.str "END")) tNil))) (xs := [.str "SHAPE", .str "END"]) (l := [[83, 72, 65, 80, 69], [69, 78, 68]]) (fun _ _ _ h => h) (by decide +kernel) (by decide)))) (lit_rows1 (lit_row (f := none) lit_non (lit_strs (t := (tCons (tC (.str "TABLE")) (tCons (tC (.str "END")) tNil))) (xs := [.str "TABLE", .str "END"]) (l := [[84, 65, 66, 76, 69], [69, 78, 68]]) (fun _ _ _ h => h) (by decide +kernel) (by decide)))) _ _ _ fun v1 H1 v2 H2 s1 r1 s2 r2 => ?_
    have h2 : H2 a = some (.dK []) := s2 _ _ (s1 _ _ upd_same)
    refine ⟨h2, [(.inr "SHAPE1", v1), (.inr "TABLE1", v2)], rfl, (show 2 ≤ 15 from by decide), ?_⟩
    have na2 : NoLst H2 a := fun xs z => by rw [h2] at z; cases z
    have em : mergeK [] [((.inr "SHAPE1" : L2.Key), v1), (.inr "TABLE1", v2)] = [(.inr (S (ntS (.f .sh))), v1), (.inr (S (ntS (.f .tab))), v2)] := by
      have a1 : ¬ (("SHAPE1" : Str) = "TABLE1") := by decide +kernel
      show _ = [((.inr (S (fmS .sh)) : L2.Key), v1), (.inr (S (fmS .tab)), v2)]
      rw [← s_fsh, ← s_ftab]
      simp [mergeK, putK, a1]
    rw [em]
    have A2 : Acc H a (upd H2 a (.dK [(.inr (S (ntS (.f .sh))), v1), (.inr (S (ntS (.f .tab))), v2)])) [.f .sh, .f .tab] := by
      have k : Kp a H2 (upd H2 a (.dK [(.inr (S (ntS (.f .sh))), v1), (.inr (S (ntS (.f .tab))), v2)])) := Kp.upd
      refine ⟨⟨_, upd_same, .cons ((r1.same s2).kp k na2) (.cons (r2.kp k na2) .nil)⟩, (((Kp.upd (H := H) (o := .dK [])).trans (Kp.of s1)).trans (Kp.of s2)).trans k⟩
    clear em
    generalize upd H2 a (.dK [(.inr (S (ntS (.f .sh))), v1), (.inr (S (ntS (.f .tab))), v2)]) = G2 at A2
    refine A2.step (n := .f .pl) (lit_rows1 (lit_row (f := none) lit_non (lit_strs (t := (tCons (tC (.str "plan")) (tCons (tC (.str "{")) (tCons (tC (.str "TABLES")) (tCons (tC (.str "LAST")) (tCons (tC (.str "}")) (tCons (tC (.str "END")) tNil))))))) (xs := [.str "plan", .str "{", .str "TABLES", .str "LAST", .str "}", .str "END"]) (l := [[112, 108, 97, 110], [123], [84, 65, 66, 76, 69, 83], [76, 65, 83, 84], [125], [69, 78, 68]]) (fun _ _ _ h => h) (by decide +kernel) (by decide)))) s_fpl (by decide) (by decide) fun G3 A3 => ?_
    refine A3.step (n := .shape) (lit_rows2 (lit_row (f := some [[40]]) (lit_strs (t := (tCons (tC (.str "(")) tNil)) (xs := [.str "("]) (l := [[40]]) (fun _ _ _ h => h) (by decide +kernel) (by decide)) (lit_strs (t := (tCons (tC (.str "(")) (tCons (tC (.str "SHAPE")) (tCons (tC (.str "SHAPE")) (tCons (tC (.str ")")) tNil))))) (xs := [.str "(", .str "SHAPE", .str "SHAPE", .str ")"]) (l := [[40], [83, 72, 65, 80, 69], [83, 72, 65, 80, 69], [41]]) (fun _ _ _ h => h) (by decide +kernel) (by decide))) (lit_row (f := none) lit_non (lit_strs (t := (tCons (tC (.str "o")) tNil)) (xs := [.str "o"]) (l := [[111]]) (fun _ _ _ h => h) (by decide +kernel) (by decide)))) s_SHAPE (by decide) (by decide) fun G4 A4 => ?_
    refine A4.step (n := .table) (lit_rows1 (lit_row (f := none) lit_non (lit_strs (t := (tCons (tC (.str "table")) (tCons (tC (.str "{")) (tCons (tC (.str "SHAPE")) (tCons (tC (.str ";")) (tCons (tC (.str "ENTRIES")) (tCons (tC (.str "}")) tNil))))))) (xs := [.str "table", .str "{", .str "SHAPE", .str ";", .str "ENTRIES", .str "}"]) (l := [[116, 97, 98, 108, 101], [123], [83, 72, 65, 80, 69], [59], [69, 78, 84, 82, 73, 69, 83], [125]]) (fun _ _ _ h => h) (by decide +kernel) (by decide)))) s_TABLE (by decide) (by decide) fun G5 A5 => ?_
    refine A5.step (n := .entries) (lit_rows2 (lit_row (f := some [[125]]) (lit_strs (t := (tCons (tC (.str "}")) tNil)) (xs := [.str "}"]) (l := [[125]]) (fun _ _ _ h => h) (by decide +kernel) (by decide)) (lit_strs (t := tNil) (xs := []) (l := []) (fun _ _ _ h => h) (by decide +kernel) (by decide))) (lit_row (f := none) lit_non (lit_strs (t := (tCons (tC (.str "SHAPE")) (tCons (tC (.str ";")) (tCons (tC (.str "ENTRIES")) tNil)))) (xs := [.str "SHAPE", .str ";", .str "ENTRIES"]) (l := [[83, 72, 65, 80, 69], [59], [69, 78, 84, 82, 73, 69, 83]]) (fun _ _ _ h => h) (by decide +kernel) (by decide)))) s_ENTRIES (by decide) (by decide) fun G6 A6 => ?_
    refine A6.step (n := .tables) (lit_rows2 (lit_row (f := some [[116, 97, 98, 108, 101]]) (lit_strs (t := (tCons (tC (.str "table")) tNil)) (xs := [.str "table"]) (l := [[116, 97, 98, 108, 101]]) (fun _ _ _ h => h) (by decide +kernel) (by decide)) (lit_strs (t := (tCons (tC (.str "TABLE")) (tCons (tC (.str "TABLES")) tNil))) (xs := [.str "TABLE", .str "TABLES"]) (l := [[84, 65, 66, 76, 69], [84, 65, 66, 76, 69, 83]]) (fun _ _ _ h => h) (by decide +kernel) (by decide))) (lit_row (f := none) lit_non (lit_strs (t := tNil) (xs := []) (l := []) (fun _ _ _ h => h) (by decide +kernel) (by decide)))) s_TABLES (by decide) (by decide) fun G7 A7 => ?_
    refine A7.two (n := .last) (lit_row (f := some [[114, 111, 117, 110, 100]]) (lit_strs (t := (tCons (tC (.str "round")) tNil)) (xs := [.str "round"]) (l := [[114, 111, 117, 110, 100]]) (fun _ _ _ h => h) (by decide +kernel) (by decide)) (lit_strs (t := (tCons (tC (.str "round")) (tCons (tC (.str "{")) (tCons (tC (.str "TABLE")) (tCons (tC (.str "ROUND")) (tCons (tC (.str "}")) tNil)))))) (xs := [.str "round", .str "{", .str "TABLE", .str "ROUND", .str "}"]) (l := [[114, 111, 117, 110, 100], [123], [84, 65, 66, 76, 69], [82, 79, 85, 78, 68], [125]]) (fun _ _ _ h => h) (by decide +kernel) (by decide))) (lit_row (f := some [[108, 101, 102, 116]]) (lit_strs (t := (tCons (tC (.str "left")) tNil)) (xs := [.str "left"]) (l := [[108, 101, 102, 116]]) (fun _ _ _ h => h) (by decide +kernel) (by decide)) (lit_strs (t := (tCons (tC (.str "left")) (tCons (tC (.str ";")) tNil))) (xs := [.str "left", .str ";"]) (l := [[108, 101, 102, 116], [59]]) (fun _ _ _ h => h) (by decide +kernel) (by decide))) s_LAST (by decide) (by decide) fun p v1 v2 H' kvs s' hp ra rb t7 h7' hpa => ?_
    have ev : valV (kvs ++ [((.inr (S (ntS .last)) : L2.Key), V.ref p)]) (.inr "LAST") = some (.ref p) := by
      rw [s_LAST]
      exact valV_snoc (t7.none (s := ntS .last) (by decide))
    refine ⟨_, rfl, a, .ref p, rfl, .inl ⟨_, .inr "LAST", .inl upd_same, rfl, ev.symm⟩, ?_⟩
    have hl : upd (upd H' p (.lst [v1, v2])) a (.dK (kvs ++ [(.inr (S (ntS .last)), .ref p)])) p = some (.lst [v1, v2]) := by rw [upd_ne hpa]; exact upd_same
    have hda : upd (upd H' p (.lst [v1, v2])) a (.dK (kvs ++ [(.inr (S (ntS .last)), .ref p)])) a = some (.dK (kvs ++ [(.inr (S (ntS .last)), .ref p)])) := upd_same
    have kH : Kp a H' (upd (upd H' p (.lst [v1, v2])) a (.dK (kvs ++ [(.inr (S (ntS .last)), .ref p)]))) := (Kp.of (same_upd hp)).trans Kp.upd
    generalize upd (upd H' p (.lst [v1, v2])) a (.dK (kvs ++ [(.inr (S (ntS .last)), .ref p)])) = G8 at hl hda kH
    refine ⟨Or.inl ⟨rfl, _, Or.inl (Or.inl hl)⟩, ?_⟩
    refine (lit_row (f := none) lit_non (lit_strs (t := (tCons (tC (.str "right")) (tCons (tC (.str ";")) tNil))) (xs := [.str "right", .str ";"]) (l := [[114, 105, 103, 104, 116], [59]]) (fun _ _ _ h => h) (by decide +kernel) (by decide))) _ _ _ fun v3 H9 s9 rc => ?_
    have hl9 := s9 _ _ hl
    refine ⟨p, [v1, v2], v3, rfl, rfl, hl9, by show 2 < sizeLine; rw [sizeLine_eq]; decide, ?_⟩
    -- all of the table behind the append
    have na' : NoLst H' a := fun xs z => by rw [h7'] at z; cases z
    have na7 := A7.noL
    have kf : Kp a H' (upd H9 p (.lst [v1, v2, v3])) := fun b o e n => by
      rw [upd_ne (ne_of_none e hp)]
      exact s9 _ _ (kH _ _ e n)
    obtain ⟨p1, x1, y1, ev1, e1, f1, g1⟩ := id ra
    obtain ⟨p3, x3, y3, ev3, e3, f3, g3⟩ := rc
    have f3 : x3 = .non := f3
    obtain ⟨p4, rfl, e4⟩ := g3
    have n3 : p3 ≠ p := fun z => by
      rw [z, hl9] at e3
      have := (HO.lst.inj (Option.some.inj e3))
      rw [ev1, f3] at this
      cases this
    have n4 : p4 ≠ p := fun z => by
      rw [z, hl9] at e4
      have := (HO.lst.inj (Option.some.inj e4))
      rw [ev1] at this
      cases this
    have A9 : Acc H a (upd H9 p (.lst [v1, v2, v3])) ([NT.f Fm.sh, NT.f Fm.tab] ++ [NT.f Fm.pl] ++ [NT.shape] ++ [NT.table] ++ [NT.entries] ++ [NT.tables] ++ [NT.last]) := by
      refine ⟨⟨_, by rw [upd_ne hpa.symm]; exact s9 _ _ hda, ?_⟩, (A7.kp.trans (Kp.of s')).trans kf⟩
      refine (t7.kp ((Kp.of s').trans kf) na7).snoc ⟨p, _, rfl, upd_same, .cons (ra.kp kf na') (.cons (rb.kp kf na') (.cons ⟨p3, x3, .ref p4, ev3, by rw [upd_ne n3]; exact e3, f3, p4, rfl, by rw [upd_ne n4]; exact e4⟩ .nil))⟩
    refine A9.step (n := .round) (lit_rows2 (lit_row (f := some [[125]]) (lit_strs (t := (tCons (tC (.str "}")) tNil)) (xs := [.str "}"]) (l := [[125]]) (fun _ _ _ h => h) (by decide +kernel) (by decide)) (lit_strs (t := tNil) (xs := []) (l := []) (fun _ _ _ h => h) (by decide +kernel) (by decide))) (lit_row (f := none) lit_non (lit_strs (t := (tCons (tC (.str "TABLE")) (tCons (tC (.str "ROUND")) tNil))) (xs := [.str "TABLE", .str "ROUND"]) (l := [[84, 65, 66, 76, 69], [82, 79, 85, 78, 68]]) (fun _ _ _ h => h) (by decide +kernel) (by decide)))) s_ROUND (by decide) (by decide) fun G10 A10 => ?_
    obtain ⟨kvs10, h10, t10⟩ := A10.tab
    exact ⟨_, rfl, q a _ (A10.kp.same ha) ha ⟨kvs10, h10, t10⟩⟩
end
end K10
set_option maxHeartbeats 4000000
namespace K10
open PySem PySem.Spec PyProof.Rows L2
open SX (S S_len S_inj S_cat)
abbrev sWrong : Stmt := tp 41
theorem ifs_of {c : TT} {t u : TS} {D : Ends} {σ : L2.St} {H : Hp} (b : Bool) (S : Hp → Prop) (h1 : ∀ Q' : Bool → Hp → Prop, (∀ H4, S H4 → Q' b H4) → c σ H Q') (h2 : ∀ H4, S H4 → if b = true then t D σ H4 else u D σ H4) : tIfS c t u D σ H := h1 _ h2
theorem lstS_cons (top : Cs) (rest : List Cs) : (lstS (top :: rest)).reverse = (lstS rest).reverse ++ [.str (S top)] := List.reverse_cons
theorem lstS_app (a b : List Cs) : (lstS b).reverse ++ (lstS a).reverse = (lstS (a ++ b)).reverse := by
  unfold lstS
  rw [List.map_append, List.reverse_append]
theorem lstS_len (a : List Cs) : (lstS a).length = a.length := List.length_map ..
theorem lstS_flat (l : List Cs) : (lstS l).all flatV = true := by
  unfold lstS
  rw [List.all_map, List.all_eq_true]
  intro x _
  rfl
theorem in_lstS (s : Cs) (l : List Cs) : inV (.str (S s)) (lstS l) = decide (s ∈ l) := by
  induction l with
  | nil => rfl
  | cons x l ih =>
    have e : inV (.str (S s)) (lstS (x :: l)) = (eqV (.str (S x)) (.str (S s)) || inV (.str (S s)) (lstS l)) := rfl
    rw [e, ih]
    have e2 : eqV (.str (S x)) (.str (S s)) = decide (x = s) := by
      by_cases h : x = s
      · subst h; simp [eqV]
      · rw [decide_eq_false h]
        simp only [eqV, beq_eq_false_iff_ne, ne_eq]
        exact fun z => h (S_inj z)
    rw [e2]
    by_cases h : x = s
    · subst h; simp
    · simp [h, Ne.symm h]
theorem ntOf_some {s : Cs} {n : NT} (h : ntOf s = some n) : ntS n = s := by
  unfold ntOf at h
  have e := List.find?_some h
  exact of_decide_eq_true e
theorem ntOf_none {s : Cs} (h : ntOf s = none) (n : NT) : ntS n ≠ s := fun z => by
  rw [← z, ntOf_nt] at h
  cases h
inductive LstsV (H : Hp) : List V → List (List Cs) → Prop where
  | nil : LstsV H [] []
  | cons {v : V} {vs : List V} {l : List Cs} {ls : List (List Cs)} (h : LstAt H v l) (t : LstsV H vs ls) : LstsV H (v :: vs) (l :: ls)
theorem LstsV.snoc {H : Hp} {vs : List V} {ls : List (List Cs)} (x : LstsV H vs ls) {v : V} {l : List Cs} (h : LstAt H v l) : LstsV H (vs ++ [v]) (ls ++ [l]) := by
  induction x with
  | nil => exact .cons h .nil
  | cons h' _ i => exact .cons h' i
theorem LstsV.same {H H' : Hp} (k : Same H H') {vs : List V} {ls : List (List Cs)} (x : LstsV H vs ls) : LstsV H' vs ls := by
  induction x with
  | nil => exact .nil
  | cons h' _ i => exact .cons (h'.same k) i
theorem LstsV.len {H : Hp} {vs : List V} {ls : List (List Cs)} (x : LstsV H vs ls) : vs.length = ls.length := by
  induction x with
  | nil => rfl
  | cons h' _ i => exact congrArg Nat.succ i
theorem RowsV.get {H : Hp} {vs : List V} {rs : List Row} (x : RowsV H vs rs) : ∀ {i : Nat} {v : V}, vs[i]? = some v → ∃ r, rs[i]? = some r ∧ RowAt H v r := by
  induction x with
  | nil => intro i v h; cases h
  | @cons v' vs' r rs' h t ih =>
    intro i v e
    cases i with
    | zero => cases e; exact ⟨r, rfl, h⟩
    | succ i => exact ih e
theorem RowsV.len {H : Hp} {vs : List V} {rs : List Row} (x : RowsV H vs rs) : vs.length = rs.length := by
  induction x with
  | nil => rfl
  | cons _ _ i => exact congrArg Nat.succ i
theorem fits_snoc (rs : List Row) (r : Row) (s : Cs) : fits (rs ++ [r]) s = if okRow s r = true then fits rs s ++ [r.2] else fits rs s := by
  unfold fits
  rw [List.filter_append, List.map_append]
  by_cases h : okRow s r = true
  · rw [if_pos h, List.filter_cons, if_pos h]
    rfl
  · rw [if_neg h, List.filter_cons, if_neg h]
    exact List.append_nil _
theorem fits_len (rs : List Row) (s : Cs) : (fits rs s).length ≤ rs.length := by
  unfold fits
  rw [List.length_map]
  exact List.length_filter_le _ _
theorem rowsOf_len (n : NT) : (rowsOf n).length ≤ 3 := by
  cases n with
  | f m => cases m <;> decide
  | _ => decide
section
variable {P : Program} {w : World} {K : PySem.W.Frag} {mg : Str → Option Value} {base : Heap}
abbrev nWrong : List Str := ["_law_rules_here", "_law_text", "_law_form", "_law_stack", "_law_lexeme_here", "_law_top", "_law_fits", "_law_row"]
theorem scWrong : FnScope nWrong ["_law_rules_here", "_law_text", "_law_form"] (defScope sWrong) := ⟨rfl, rfl, rfl, by decide +kernel, rfl, by decide +kernel, by decide +kernel⟩
/-- row[0] is None or lexeme[1] in row[0] -/
abbrev ttFit (K : PySem.W.Frag) : TT := tOr (tTest (tOp (fun x y H Q => y = .non ∧ Q (.bl (decide (x = .non))) H) (tOp (rIxL K) (tVar 7) (tC (.int 0))) (tC .non))) (tTest (tOp (rIn K false) (tOp (rIxL K) (tVar 4) (tC (.int 1))) (tOp (rIxL K) (tVar 7) (tC (.int 0)))))
def spWrong (D : Nat) : Sp := fun vs H Q _ => ∃ (a : Addr) (cs : Cs) (fm : Fm) (e : Option Nat), vs = [.ref a, .str (S cs), .str (S (fmS fm))] ∧ RulesAt H a ∧ cs.length ≤ 16000000 ∧ readOf D fm cs = some e ∧ ∀ l H', Same H H' → H l = none → H' l = some (.lst (errL e)) → Q (.ref l) H'
theorem ok_wrong {f fX : Addr} {fd fdX : FuncData} {D : Nat} (hD : D ≤ 1000) (N : Fn K mg "_law_wrong_place" sWrong f fd ["_law_rules_here", "_law_text", "_law_form"]) (NX : Fn K mg "_law_lexeme" sLLex fX fdX ["_law_text", "_law_place"])
    (T : GT K mg) (GX : FnOk P w K mg base CX0 2 fX fdX ["_law_text", "_law_place"] spLLex) : FnOk P w K mg base CX0 3 f fd ["_law_rules_here", "_law_text", "_law_form"] (spWrong D) := by
  refine N.F.ok scWrong (fun vs H Q E h => ?_) (fun cdv A outer s H vs Q E hr h => ?_)
  · obtain ⟨_, _, _, _, rfl, _⟩ := h
    rfl
  · obtain ⟨a, cs, fm, e, rfl, ha, hz, he, q⟩ := h
    have hu : (A.deeper (envOfC "_law_wrong_place" (defScope sWrong) s.heap.objs.size f cdv)).units + 1 < cLine := by have := hr.units; omega
    refine ⟨_, pss_cons (ps_asg (pe_tup (pa_cons (pe_lst (pa_cons (pv 2) pa_nil)) (pa_cons (pe_call GX hr (by rfl) NX.g NX.F.kp NX.b .nil pass0 (pa_cons (pv 1) (pa_cons pe_int pa_nil))) pa_nil))) (pg_tup rfl (pgs_cons (pg_name (i := 3) scWrong.nd rfl (Or.inl rfl)) (pgs_cons (pg_name (i := 4) scWrong.nd rfl (Or.inr rfl)) pgs_nil))))
      (pss_cons (ps_while PassesOwn.never (pt_cmpR (op_ne_nilL hr.units0) (pv 3) (pe_lst pa_nil) (nomark _))
        (pss_cons (ps_set (i := 5) scWrong.nd rfl (Or.inl rfl) (pe_bm0 PySem.F.plainAttrs_list PySem.F.slot_list_pop PySem.F.type_list_pop mt_pop (pv 3)))
        (pss_one (ps_if (pt_cmp (pc_din hu (pv 5) (pv 0)))
          (pss_cons (ps_setLc (i := 6) (own := [("_law_row", 7)]) (g := gName 7) (tt := ttFit K) (te := tOp (rIxL K) (tVar 7) (tC (.int 1))) rfl scWrong.nd rfl rfl (sw_true rfl rfl rfl rfl) (pi_list (pe_dget hu (pv 0) (pv 5) (fun _ _ => rfl))) (blkOk_by (N := nWrong) (sc := defScope sWrong) (by decide +kernel)) (fun _ _ _ _ _ => pg_name (i := 7) scWrong.nd rfl (Or.inl rfl))
              (fun _ _ _ _ _ => pts_one (PW.pt (pw_or (pt_cmpR op_isN (pe_ix ix_list (pv 7) pe_int (fun _ _ => rfl)) pe_non (by rfl)) (pw_or1 (pt_cmpR op_in_seq (pe_ix ix_list (pv 4) pe_int (fun _ _ => rfl)) (pe_ix ix_list (pv 7) pe_int (fun _ _ => rfl)) (by rfl))))))
              (fun _ _ _ _ _ => pe_ix ix_list (pv 7) pe_int (fun _ _ => rfl)))
          (pss_one (ps_set (i := 3) scWrong.nd rfl (Or.inl rfl) (pe_op op_cat (pv 3) (pe_revL (pe_ix ix_list (pv 6) pe_int (fun _ _ => rfl)))))))
          (pss_one (ps_if (PW.pt (pw_or (pt_cmpR op_eq (pe_ix ix_list (pv 4) pe_int (fun _ _ => rfl)) (pv 5) (nomark _)) (pw_or1 (PW.pt (pw_and (pt_cmpR op_eq (pe_ix ix_list (pv 4) pe_int (fun _ _ => rfl)) pe_str (nomark _)) (pw_and1 (pt_cmpR op_eq (pe_ix ix_list (pv 4) pe_int (fun _ _ => rfl)) (pv 5) (nomark _))))))))
            (pss_one (ps_set (i := 4) scWrong.nd rfl (Or.inr rfl) (pe_call GX hr (by rfl) NX.g NX.F.kp NX.b .nil pass0 (pa_cons (pv 1) (pa_cons (pe_op op_add (pe_ix ix_list (pv 4) pe_int (fun _ _ => rfl)) (pe_callB call_len_str (by rfl) T.len PySem.boot_len (pa_cons (pe_ix ix_list (pv 4) pe_int (fun _ _ => rfl)) pa_nil))) pa_nil)))))
            (pss_one (ps_ret (pe_lst (pa_cons (pe_ix ix_list (pv 4) pe_int (fun _ _ => rfl)) pa_nil))))))))))
      (pss_one (ps_ret (pe_lst pa_nil)))), ?_⟩
    have z0 : sizeLine = 16777216 := sizeLine_eq
    refine ⟨_, rfl, by show 1 ≤ sizeLine; omega, fun l hl => ⟨_, rfl, cs, 0, rfl, Nat.zero_le _, by omega, fun H1 t s1 ht h1 => ⟨by show 2 ≤ sizeLine; omega, fun p0 hp0 => ⟨p0, [.ref l, .ref t], rfl, SqT.of upd_same, rfl, _, _, rfl, _, _, rfl, rfl, ?_⟩⟩⟩⟩
    obtain ⟨m0, run0⟩ := ru_of hD he
    have sA := same_upd (o := .tup [.ref l, .ref t]) hp0
    have hlt : l ≠ t := fun z => by rw [← z, upd_same] at ht; cases ht
    refine ⟨fun m σ H' => ∃ l t stk L r5 r6, σ = [some (.ref a), some (.str (S cs)), some (.str (S (fmS fm))), some (.ref l), some (.ref t), r5, r6, none] ∧ l ≠ t ∧ H l = none ∧ Same H H' ∧ H' l = some (.lst (lstS stk).reverse) ∧ H' t = some (.lst (lkV L)) ∧ LxOk cs L ∧ Runs cs m stk L e ∧ stk.length ≤ 100000,
      ⟨m0, l, t, [fmS fm], lexAt cs 0, none, none, rfl, hlt, hl, ((same_upd hl).trans s1).trans sA, sA _ _ (s1 _ _ upd_same), sA _ _ h1, lexAt_ok (Nat.zero_le _), run0, (by show 1 ≤ 100000; omega)⟩, ?_⟩
    rintro m σ H2 ⟨l, t, stk, L, r5, r6, rfl, hlt, hl, s2, h2, ht, lok, run, hsz⟩
    refine ⟨_, rfl, by show 0 ≤ sizeLine; omega, fun u hu => ?_⟩
    have s3 := same_upd (o := .lst []) hu
    have s23 := s2.trans s3
    have h3 := s3 _ _ h2
    have ht3 := s3 _ _ ht
    refine ⟨l, u, _, rfl, rfl, SqL.of h3, SqL.of upd_same, _, rfl, ?_⟩
    show if (!((lstS stk).reverse).isEmpty) = true then _ else _
    generalize upd H2 u (.lst []) = H3 at *
    cases stk with
    | nil =>
      refine if_false_of rfl ?_
      cases run
      refine ⟨by show 0 ≤ sizeLine; omega, fun l' hl' => q l' _ (s23.trans (same_upd hl')) (s23.free hl') upd_same⟩
    | cons top rest =>
      refine if_true_of (by rw [lstS_cons]; simp) ?_
      refine ⟨fun σ' H' => ∃ m', m' < m ∧ ∃ l t stk L r5 r6, σ' = [some (.ref a), some (.str (S cs)), some (.str (S (fmS fm))), some (.ref l), some (.ref t), r5, r6, none] ∧ l ≠ t ∧ H l = none ∧ Same H H' ∧ H' l = some (.lst (lstS stk).reverse) ∧ H' t = some (.lst (lkV L)) ∧ LxOk cs L ∧ Runs cs m' stk L e ∧ stk.length ≤ 100000, fun _ _ z => z, ?_⟩
      rw [lstS_cons] at h3
      refine ⟨_, rfl, Or.inl ⟨rfl, _, Or.inl (Or.inl h3)⟩, l, _, .str (S top), rfl, rfl, h3, by simp, ?_⟩
      rw [List.dropLast_concat]
      have s4 : Same H (upd H3 l (.lst (lstS rest).reverse)) := fun b o e => by
        rw [upd_ne (ne_of_none e hl)]
        exact s23 _ _ e
      have h4 : upd H3 l (.lst (lstS rest).reverse) l = some (.lst (lstS rest).reverse) := upd_same
      have ht4 : upd H3 l (.lst (lstS rest).reverse) t = some (.lst (lkV L)) := by rw [upd_ne hlt.symm]; exact ht3
      generalize upd H3 l (.lst (lstS rest).reverse) = H4 at *
      have hsz' : rest.length ≤ 100000 := Nat.le_of_succ_le hsz
      obtain ⟨kvs, hkv, tab⟩ := ha.same s4
      cases hn : ntOf top with
      | none =>
        have hv : valV kvs (.inr (S top)) = none := tab.none fun n _ => ntOf_none hn n
        refine ⟨_, rfl, _, rfl, a, none, rfl, .inl ⟨kvs, .inr (S top), .inl hkv, rfl, hv.symm⟩, _, rfl, if_false_of rfl ?_⟩
        -- the lexeme's item
        have item : ∀ (j : Nat) (x : V), (lkV L)[j]? = some x → ∀ (Q' : VK), Q' x H4 → tOp (rIxL K) (tVar 4) (tC (.int (j : Nat))) [some (.ref a), some (.str (S cs)), some (.str (S (fmS fm))), some (.ref l), some (.ref t), some (.str (S top)), r6, none] H4 Q' := fun j x hx Q' hQ =>
          ⟨_, rfl, t, _, _, x, rfl, rfl, SqL.of ht4, atI_nat hx, hQ⟩
        refine ifs_of (decide (hits L top)) (fun H5 => H5 = H4) (fun Q' hQ => ?_) ?_
        · refine item 0 _ rfl _ ⟨_, rfl, rfl, _, rfl, ?_⟩
          rw [dec_S]
          by_cases c1 : lk L = top
          · refine if_true_of (decide_eq_true c1) ?_
            have := hQ H4 rfl
            rw [decide_eq_true (show hits L top from .inl c1)] at this
            exact this
          · refine if_false_of (decide_eq_false c1) ?_
            refine item 0 _ rfl _ ⟨rfl, _, rfl, ?_⟩
            rw [s_W, dec_S]
            by_cases c2 : lk L = [87]
            · refine if_true_of (decide_eq_true c2) ?_
              refine item 1 _ rfl _ ⟨_, rfl, rfl, _, rfl, ?_⟩
              have e2 : decide (hits L top) = decide (L.s = top) := by
                by_cases c3 : L.s = top
                · rw [decide_eq_true c3, decide_eq_true (show hits L top from .inr ⟨c2, c3⟩)]
                · rw [decide_eq_false c3, decide_eq_false (show ¬ hits L top from fun z => z.elim c1 fun z => c3 z.2)]
              rw [dec_S, ← e2]
              exact hQ H4 rfl
            · refine if_false_of (decide_eq_false c2) ?_
              have := hQ H4 rfl
              rw [decide_eq_false (show ¬ hits L top from fun z => z.elim c1 fun z => c2 z.1)] at this
              exact this
        · rintro H5 rfl
          have lle := lok.le
          cases run with
          | nt hn' => rw [hn] at hn'; cases hn'
          | @tm m' _ _ _ _ hn' hh r =>
            refine if_true_of (decide_eq_true hh) ?_
            refine ⟨_, rfl, ?_⟩
            refine item 2 _ rfl _ (item 1 _ rfl _ ⟨S L.s, rfl, by rw [S_len]; omega, _, _, rfl, rfl, ?_⟩)
            refine ⟨cs, L.p + L.s.length, by rw [S_len]; rfl, lle, by omega, fun H6 t' s6 ht' h6 => ?_⟩
            have hlt' : l ≠ t' := fun z => by rw [← z, h4] at ht'; cases ht'
            exact ⟨m', Nat.lt_succ_self _, l, t', rest, nextL cs L, _, _, rfl, hlt', hl, s4.trans s6, s6 _ _ h4, h6, next_ok lok, r, hsz'⟩
          | bad hn' hh =>
            refine if_false_of (decide_eq_false hh) ?_
            refine item 2 _ rfl _ ⟨by show 1 ≤ sizeLine; omega, fun l' hl' => ?_⟩
            exact q l' _ (s4.trans (same_upd hl')) (s4.free hl') upd_same
      | some n =>
        have et := ntOf_some hn
        cases run with
        | tm hn' => rw [hn] at hn'; cases hn'
        | bad hn' => rw [hn] at hn'; cases hn'
        | @nt m' _ n' fol more _ _ _ hn' hf hlen r =>
          rw [hn] at hn'
          cases hn'
          obtain ⟨v, hv, p, vs, rfl, hp, rows⟩ := tab.get (mem_all n)
          rw [et] at hv
          refine ⟨_, rfl, _, rfl, a, _, rfl, .inl ⟨kvs, .inr (S top), .inl hkv, rfl, hv.symm⟩, _, rfl, if_true_of rfl ?_⟩
          have rl := rows.len
          have r3 := rowsOf_len n
          refine ⟨_, rfl, _, rfl, a, .ref p, rfl, .inl ⟨kvs, .inr (S top), .inl hkv, rfl, hv.symm⟩, p, rfl, ⟨vs, SqL.of hp⟩, fun D hD => lc_it walk_list (fun i H' => Same H4 H' ∧ ∃ ys, H' D = some (.lst ys) ∧ LstsV H4 ys (fits ((rowsOf n).take i) L.s)) ⟨same_upd hD, [], upd_same, .nil⟩ (fun _ _ _ z => SqL.of (z.1 _ _ hp)) ?_ ?_⟩
          · rintro i x H5 H6 hi ⟨s5, ys, hd, lv⟩ ⟨rfl, hx⟩
            obtain ⟨rw, hrw, p2, x0, y0, rfl, h2', f2, g2⟩ := rows.get hx
            have etake : (rowsOf n).take (i + 1) = (rowsOf n).take i ++ [rw] := by rw [List.take_add_one, hrw]; rfl
            have el := lv.len
            have fl := fits_len ((rowsOf n).take i) L.s
            have tl := List.length_take (i := i) (l := rowsOf n)
            have item : ∀ (j : Nat) (x : V), ([x0, y0] : List V)[j]? = some x → ∀ (Q' : VK), Q' x H6 → tOp (rIxL K) (tVar 7) (tC (.int (j : Nat))) (wipe [some (.ref a), some (.str (S cs)), some (.str (S (fmS fm))), some (.ref l), some (.ref t), some (.str (S top)), r6, none] [7] |>.set 7 (some (.ref p2))) H6 Q' := fun j x hx Q' hQ =>
              ⟨_, rfl, p2, _, _, x, rfl, rfl, SqL.of (s5 _ _ h2'), atI_nat hx, hQ⟩
            refine ⟨rfl, test_of (okRow L.s rw) (fun H7 => H7 = H6) (fun Q' hQ => ?_) ?_⟩
            · refine item 0 x0 rfl _ ⟨rfl, _, rfl, ?_⟩
              obtain ⟨f, lf⟩ := rw
              cases f with
              | none =>
                have ex : x0 = .non := f2
                exact if_true_of (by rw [ex]; rfl) (hQ _ rfl)
              | some lst =>
                obtain ⟨qf, rfl, hqf⟩ := f2
                refine if_false_of rfl ?_
                refine ⟨_, rfl, t, _, 1, _, rfl, rfl, SqL.of (s5 _ _ ht4), atI_nat (j := 1) rfl, item 0 _ rfl _ ⟨qf, lstS lst, rfl, .inl (SqL.of (s5 _ _ hqf)), rfl, lstS_flat _, _, rfl, ?_⟩⟩
                show Q' (inV (.str (S L.s)) (lstS lst)) _
                rw [in_lstS]
                exact hQ _ rfl
            · rintro H7 rfl
              refine ite_both (fun hb => ?_) (fun hb => ?_)
              · refine item 1 y0 rfl _ ⟨ys, hd, by omega, fun b' o' e' => ?_, ys ++ [y0], upd_same, ?_⟩
                · rw [upd_ne (ne_of_none e' hD)]; exact s5 _ _ e'
                · rw [etake, fits_snoc, if_pos hb]
                  exact lv.snoc g2
              · refine ⟨s5, ys, hd, ?_⟩
                rw [etake, fits_snoc, if_neg (by rw [hb]; decide)]
                exact lv
          · rintro H5 ⟨s5, ys, hd, lv⟩
            rw [List.take_of_length_le (by omega), hf] at lv
            cases lv with
            | @cons v0 ys' _ _ h0 t0 =>
              obtain ⟨pf, rfl, hpf⟩ := h0
              have hlen' := hlen
              rw [List.length_append] at hlen'
              refine ⟨_, rfl, _, rfl, D, _, 0, _, rfl, rfl, SqL.of hd, atI_nat (j := 0) rfl, pf, lstS fol, rfl, SqL.of (s5 _ _ hpf), fun r' hr' => ⟨l, r', (lstS rest).reverse, (lstS fol).reverse, rfl, rfl, same_upd hr' _ _ (s5 _ _ h4), upd_same, ?_, fun l2 hl2 => ?_⟩⟩
              · rw [List.length_reverse, List.length_reverse, lstS_len, lstS_len]
                omega
              · have s6 := s5.trans (same_upd (o := .lst (lstS fol).reverse) hr')
                have ht6 := s6 _ _ ht4
                have hne : l2 ≠ t := fun z => by rw [z, ht6] at hl2; cases hl2
                have s7 := s6.trans (same_upd (o := .lst ((lstS rest).reverse ++ (lstS fol).reverse)) hl2)
                exact ⟨m', Nat.lt_succ_self _, l2, t, fol ++ rest, L, _, _, rfl, hne, (s4.trans s6).free hl2, s4.trans s7, by rw [upd_same, lstS_app], s7 _ _ ht4, lok, r, hlen⟩
end
end K10
set_option maxHeartbeats 4000000
namespace K10
open PySem PySem.Spec PyProof.Rows L2
open SX (S S_len S_inj S_cat)
abbrev sSource : Stmt := tp 35
abbrev sPick : Stmt := tp 36
abbrev sOf : Stmt := tp 37
/-- the dict of the source -/
def srcK (c : Addr) (l m t : Int) : List (L2.Key × V) := [(.inr "cells", .ref c), (.inr "left", .int l), (.inr "mixed", .int m), (.inr "turn", .int t)]
theorem n_cl : ¬ (("cells" : Str) = "left") := by decide +kernel
theorem n_cm : ¬ (("cells" : Str) = "mixed") := by decide +kernel
theorem n_ct : ¬ (("cells" : Str) = "turn") := by decide +kernel
theorem n_lm : ¬ (("left" : Str) = "mixed") := by decide +kernel
theorem n_lt : ¬ (("left" : Str) = "turn") := by decide +kernel
theorem n_mt : ¬ (("mixed" : Str) = "turn") := by decide +kernel
theorem n_ml : ¬ (("mixed" : Str) = "left") := by decide +kernel
theorem n_tl : ¬ (("turn" : Str) = "left") := by decide +kernel
theorem n_tm : ¬ (("turn" : Str) = "mixed") := by decide +kernel
section
variable {H : Hp} {a c : Addr} {l m t x : Int}
theorem get_cells (h : H a = some (.dK (srcK c l m t))) : DGet H a (.str "cells") (some (.ref c)) := .inl ⟨_, .inr "cells", .inl h, rfl, by simp [srcK, valV]⟩
theorem get_left (h : H a = some (.dK (srcK c l m t))) : DGet H a (.str "left") (some (.int l)) := .inl ⟨_, .inr "left", .inl h, rfl, by simp [srcK, valV, n_cl]⟩
theorem get_mixed (h : H a = some (.dK (srcK c l m t))) : DGet H a (.str "mixed") (some (.int m)) := .inl ⟨_, .inr "mixed", .inl h, rfl, by simp [srcK, valV, n_cm, n_lm]⟩
theorem get_turn (h : H a = some (.dK (srcK c l m t))) : DGet H a (.str "turn") (some (.int t)) := .inl ⟨_, .inr "turn", .inl h, rfl, by simp [srcK, valV, n_ct, n_lt, n_mt]⟩
theorem z4 : (4 : Nat) < sizeLine := by rw [sizeLine_eq]; decide
theorem put_left (h : H a = some (.dK (srcK c l m t))) : DPut H a (.str "left") (.int x) (upd H a (.dK (srcK c x m t))) := .inl ⟨_, .inr "left", h, rfl, z4, by simp [srcK, putK, n_cl, n_ml, n_tl]⟩
theorem put_mixed (h : H a = some (.dK (srcK c l m t))) : DPut H a (.str "mixed") (.int x) (upd H a (.dK (srcK c l x t))) := .inl ⟨_, .inr "mixed", h, rfl, z4, by simp [srcK, putK, n_cm, n_lm, n_tm]⟩
theorem put_turn (h : H a = some (.dK (srcK c l m t))) : DPut H a (.str "turn") (.int x) (upd H a (.dK (srcK c l m x))) := .inl ⟨_, .inr "turn", h, rfl, z4, by simp [srcK, putK, n_ct, n_lt, n_mt]⟩
end
/-- a source at a, its cells at c -/
def Src (H : Hp) (a c : Addr) : Prop := a ≠ c ∧ (∃ l m t, H a = some (.dK (srcK c l m t))) ∧ ∃ cells : List Int, H c = some (.lst (cells.map V.int))
theorem Src.same {H H' : Hp} {a c : Addr} (x : Src H a c) (k : Same H H') : Src H' a c := by
  obtain ⟨n, ⟨l, m, t, h⟩, cells, h2⟩ := x
  exact ⟨n, ⟨l, m, t, k _ _ h⟩, cells, k _ _ h2⟩
theorem Kp2.refl (a c : Addr) (H : Hp) : Kp2 a c H H := fun _ _ e _ _ => e
theorem Kp2.upd1 {a c : Addr} {H : Hp} {o : HO} : Kp2 a c H (upd H a o) := Kp.upd.two
theorem Kp2.upd2 {a c : Addr} {H : Hp} {o : HO} : Kp2 a c H (upd H c o) := Kp.upd.two'
/-- all but the source at a and its cells at c is as it was; where no cells are left none come -/
structure KpS (a c : Addr) (H H' : Hp) : Prop where
  k : Kp2 a c H H'
  e : H c = some (.lst []) → H' c = some (.lst [])
theorem KpS.refl (a c : Addr) (H : Hp) : KpS a c H H := ⟨Kp2.refl _ _ _, fun e => e⟩
theorem KpS.trans {a c : Addr} {H H1 H2 : Hp} (x : KpS a c H H1) (y : KpS a c H1 H2) : KpS a c H H2 := ⟨x.k.trans y.k, fun e => y.e (x.e e)⟩
theorem KpS.of {a c : Addr} {H H1 : Hp} (x : Same H H1) : KpS a c H H1 := ⟨Kp2.of x, fun e => x _ _ e⟩
section
variable {P : Program} {w : World} {K : PySem.W.Frag} {mg : Str → Option Value} {base : Heap}
/-- an if ahead of the rest -/
theorem ifs_seq {c : TT} {t u r : TS} {D : Ends} {σ : L2.St} {H : Hp} (b : Bool) (S : Hp → Prop) (h1 : ∀ Q' : Bool → Hp → Prop, (∀ H4, S H4 → Q' b H4) → c σ H Q') (h2 : ∀ H4, S H4 → if b = true then t { D with nx := r D } σ H4 else u { D with nx := r D } σ H4) : tSeq (tIfS c t u) r D σ H := h1 _ h2
def spPick : Sp := fun vs H Q _ => ∃ (a c : Addr) (many : Int), vs = [.ref a, .int many] ∧ Src H a c ∧ 1 ≤ many ∧ many < 1073741824 ∧ ∀ (r : Nat) H', (r : Int) < many → Src H' a c → KpS a c H H' → Q (.int r) H'
abbrev nPick : List Str := ["_law_source_here", "_law_many", "_law_left", "_law_mixed"]
theorem scPick : FnScope nPick ["_law_source_here", "_law_many"] (defScope sPick) := ⟨rfl, rfl, rfl, by decide +kernel, rfl, by decide +kernel, by decide +kernel⟩
theorem ok_pick {f : Addr} {fd : FuncData} (N : Fn K mg "_law_pick" sPick f fd ["_law_source_here", "_law_many"]) (T : GT K mg) : FnOk P w K mg base CX0 1 f fd ["_law_source_here", "_law_many"] spPick := by
  refine N.F.ok scPick (fun vs H Q E h => ?_) (fun cdv A outer s H vs Q E hr h => ?_)
  · obtain ⟨_, _, _, rfl, _⟩ := h
    rfl
  · obtain ⟨a, c, many, rfl, hs, hm1, hm2, q⟩ := h
    have hu : (A.deeper (envOfC "_law_pick" (defScope sPick) s.heap.objs.size f cdv)).units + 1 < cLine := by have := hr.units; omega
    refine ⟨_, pss_cons (ps_while PassesOwn.never (PW.pt (pw_and (pt_cmpR op_gt (pv 1) pe_int (nomark _)) (pw_and (pt_cmpR op_lt (pe_dget hu (pv 0) pe_str (fun _ _ => rfl)) pe_int (nomark _))
          (pw_and1 (pt_cmpR op_gt (pe_callB call_len (by rfl) T.len PySem.boot_len (pa_cons (pe_dget hu (pv 0) pe_str (fun _ _ => rfl)) pa_nil)) pe_int (nomark _))))))
        (pss_one (ps_dput hu (pv 0) pe_str (pe_bm0 PySem.F.plainAttrs_list PySem.F.slot_list_pop PySem.F.type_list_pop mt_pop (pe_dget hu (pv 0) pe_str (fun _ _ => rfl))) (by rfl))))
      (pss_cons (ps_set (i := 2) scPick.nd rfl (Or.inl rfl) (pe_dget hu (pv 0) pe_str (fun _ _ => rfl)))
      (pss_cons (ps_if (PW.pt (pw_or (pt_cmpR op_lt (pv 1) pe_int (nomark _)) (pw_or1 (pt_cmpR op_gt (pv 2) pe_int (nomark _)))))
          (pss_cons (ps_dput hu (pv 0) pe_str (pe_op op_fdiv (pv 2) (pe_callB (call_max2 rfl) (by rfl) T.max (by decide +kernel) (pa_cons pe_int (pa_cons (pv 1) pa_nil)))) (by rfl))
          (pss_one (ps_ret (pe_op op_mod (pe_callTy call_int1 (by rfl) T.int (by decide +kernel) (pa_cons (pv 2) pa_nil)) (pe_callB (call_max2 rfl) (by rfl) T.max (by decide +kernel) (pa_cons pe_int (pa_cons (pv 1) pa_nil))))))) pss_nil)
      (pss_cons (ps_dput hu (pv 0) pe_str (pe_op op_add (pe_dget hu (pv 0) pe_str (fun _ _ => rfl)) pe_int) (by rfl))
      (pss_cons (ps_set (i := 3) scPick.nd rfl (Or.inl rfl) (pe_op op_mod (pe_callTy call_int1 (by rfl) T.int (by decide +kernel) (pa_cons (pe_op op_add (pe_dget hu (pv 0) pe_str (fun _ _ => rfl)) (pe_op op_mul (pe_dget hu (pv 0) pe_str (fun _ _ => rfl)) pe_int)) pa_nil)) pe_int))
      (pss_cons (ps_set (i := 3) scPick.nd rfl (Or.inl rfl) (pe_op op_mod (pe_callTy call_int1 (by rfl) T.int (by decide +kernel) (pa_cons (pe_op op_add (pe_op op_mul (pv 3) (pv 3)) (pe_op op_mul (pe_dget hu (pv 0) pe_str (fun _ _ => rfl)) pe_int)) pa_nil)) pe_int))
      (pss_cons (ps_dput hu (pv 0) pe_str (pv 3) (by rfl))
      (pss_one (ps_ret (pe_op op_mod (pe_callTy call_int1 (by rfl) T.int (by decide +kernel) (pa_cons (pe_op op_fdiv (pv 3) pe_int) pa_nil)) (pv 1)))))))))), ?_⟩
    have z0 : sizeLine = 16777216 := sizeLine_eq
    obtain ⟨hac, ⟨l0, m0, t0, h0⟩, cells0, c0⟩ := hs
    refine ⟨fun m σ H' => ∃ l cells, σ = [some (.ref a), some (.int many), none, none] ∧ H' a = some (.dK (srcK c l m0 t0)) ∧ H' c = some (.lst (List.map V.int cells)) ∧ cells.length = m ∧ Kp2 a c H H' ∧ cells.length ≤ cells0.length, ⟨_, l0, cells0, rfl, h0, c0, rfl, Kp2.refl _ _ _, Nat.le_refl _⟩, ?_⟩
    rintro m σ H1 ⟨l, cells, rfl, h1, c1, rfl, k1, hle⟩
    refine test_of (decide (1 < many ∧ l < 2 ∧ 0 < cells.length)) (fun H4 => H4 = H1) (fun Q' hQ => ?_) ?_
    · refine ⟨_, rfl, _, _, rfl, rfl, _, rfl, ?_⟩
      by_cases d1 : 1 < many
      · refine if_true_of (decide_eq_true d1) ?_
        refine ⟨_, rfl, a, _, rfl, get_left h1, _, _, rfl, rfl, _, rfl, ?_⟩
        by_cases d2 : l < 2
        · refine if_true_of (decide_eq_true d2) ?_
          refine ⟨_, rfl, a, _, rfl, get_cells h1, .ref c, _, rfl, .inl ⟨_, SqL.of c1, rfl⟩, _, _, rfl, rfl, _, rfl, ?_⟩
          have := hQ H1 rfl
          have e : decide (1 < many ∧ l < 2 ∧ 0 < cells.length) = decide ((0 : Int) < ((List.map V.int cells).length : Nat)) := by
            rw [List.length_map]
            by_cases d3 : 0 < cells.length
            · rw [decide_eq_true ⟨d1, d2, d3⟩, decide_eq_true (by omega)]
            · rw [decide_eq_false (fun z => d3 z.2.2), decide_eq_false (by omega)]
          rw [e] at this
          exact this
        · refine if_false_of (decide_eq_false d2) ?_
          have := hQ H1 rfl
          rw [decide_eq_false (fun z => d2 z.2.1)] at this
          exact this
      · refine if_false_of (decide_eq_false d1) ?_
        have := hQ H1 rfl
        rw [decide_eq_false (fun z => d1 z.1)] at this
        exact this
    · rintro H4 rfl
      refine ite_both (fun hb => ?_) (fun hb => ?_)
      · obtain ⟨d1, d2, d3⟩ := of_decide_eq_true hb
        refine ⟨fun σ' H' => ∃ m', m' < cells.length ∧ ∃ l cells, σ' = [some (.ref a), some (.int many), none, none] ∧ H' a = some (.dK (srcK c l m0 t0)) ∧ H' c = some (.lst (List.map V.int cells)) ∧ cells.length = m' ∧ Kp2 a c H H' ∧ cells.length ≤ cells0.length, fun _ _ z => z, ?_⟩
        obtain ⟨init, x, rfl⟩ : ∃ init x, cells = init ++ [x] := by
          rcases List.eq_nil_or_concat cells with z | ⟨i, x, z⟩
          · rw [z] at d3; exact absurd d3 (by simp)
          · exact ⟨i, x, by rw [z]; simp⟩
        have ec : List.map V.int (init ++ [x]) = List.map V.int init ++ [.int x] := by simp
        rw [ec] at c1
        refine ⟨_, rfl, a, _, rfl, get_cells h1, Or.inl ⟨rfl, _, Or.inl (Or.inl c1)⟩, c, _, .int x, rfl, rfl, c1, by simp, ?_⟩
        rw [List.dropLast_concat]
        have h5 : upd H4 c (.lst (List.map V.int init)) a = some (.dK (srcK c l m0 t0)) := by rw [upd_ne hac]; exact h1
        refine ⟨_, rfl, a, _, rfl, put_left h5, init.length, by rw [List.length_append]; simp, x, init, rfl, upd_same, by rw [upd_ne hac.symm]; exact upd_same, rfl, (k1.trans Kp2.upd2).trans Kp2.upd1, by rw [List.length_append] at hle; exact Nat.le_of_succ_le hle⟩
      · refine ⟨_, rfl, a, _, rfl, get_left h1, ?_⟩
        -- the last digits
        have emp : H c = some (.lst []) → cells = [] := fun z => by
          rw [c0] at z
          have z1 := congrArg List.length (HO.lst.inj (Option.some.inj z))
          rw [List.length_map] at z1
          exact List.eq_nil_of_length_eq_zero (by have z2 : cells0.length = 0 := z1; omega)
        have hmx : (if many > 1 then many else 1) = many := by
          by_cases z : many > 1
          · rw [if_pos z]
          · rw [if_neg z]; omega
        have nat_of : ∀ (x : Int), 0 ≤ x % many → x % many < many → ∃ r : Nat, (r : Int) = x % many ∧ (r : Int) < many := fun x h1 h2 => ⟨(x % many).toNat, by omega, by omega⟩
        have pos : 0 < many := by omega
        refine ⟨_, rfl, _, _, rfl, rfl, _, rfl, ?_⟩
        by_cases d : many < 2 ∨ 1 < l
        · by_cases d1 : many < 2
          · refine if_true_of (decide_eq_true d1) ?_
            refine if_true_of rfl ?_
            refine ⟨_, rfl, _, rfl, 1, many, rfl, ?_⟩
            rw [hmx]
            refine ⟨_, _, rfl, rfl, ⟨pos, hm2⟩, _, rfl, a, _, rfl, put_left h1, ?_⟩
            refine ⟨_, rfl, .inl ⟨l, rfl, _, rfl, 1, many, rfl, ?_⟩⟩
            rw [hmx]
            refine ⟨_, _, rfl, rfl, pos, ?_⟩
            obtain ⟨r, er, hr2⟩ := nat_of l (Int.emod_nonneg _ (by omega)) (Int.emod_lt_of_pos _ pos)
            show Q (.int (l % many)) _
            rw [← er]
            exact q r _ hr2 ⟨hac, ⟨_, _, _, upd_same⟩, cells, by rw [upd_ne hac.symm]; exact c1⟩ ⟨k1.trans Kp2.upd1, fun z => by rw [upd_ne hac.symm, c1, emp z]; rfl⟩
          · refine if_false_of (decide_eq_false d1) ⟨_, rfl, _, _, rfl, rfl, _, rfl, if_true_of (decide_eq_true (d.resolve_left d1)) ?_⟩
            refine ⟨_, rfl, _, rfl, 1, many, rfl, ?_⟩
            rw [hmx]
            refine ⟨_, _, rfl, rfl, ⟨pos, hm2⟩, _, rfl, a, _, rfl, put_left h1, ?_⟩
            refine ⟨_, rfl, .inl ⟨l, rfl, _, rfl, 1, many, rfl, ?_⟩⟩
            rw [hmx]
            refine ⟨_, _, rfl, rfl, pos, ?_⟩
            obtain ⟨r, er, hr2⟩ := nat_of l (Int.emod_nonneg _ (by omega)) (Int.emod_lt_of_pos _ pos)
            show Q (.int (l % many)) _
            rw [← er]
            exact q r _ hr2 ⟨hac, ⟨_, _, _, upd_same⟩, cells, by rw [upd_ne hac.symm]; exact c1⟩ ⟨k1.trans Kp2.upd1, fun z => by rw [upd_ne hac.symm, c1, emp z]; rfl⟩
        · refine if_false_of (decide_eq_false fun z => d (.inl z)) ⟨_, rfl, _, _, rfl, rfl, _, rfl, if_false_of (decide_eq_false fun z => d (.inr z)) ?_⟩
          refine ⟨_, rfl, a, _, rfl, get_turn h1, _, _, rfl, rfl, _, rfl, a, _, rfl, put_turn h1, ?_⟩
          have h6 : upd H4 a (.dK (srcK c l m0 (t0 + 1))) a = some (.dK (srcK c l m0 (t0 + 1))) := upd_same
          refine ⟨_, rfl, a, _, rfl, get_mixed h6, _, rfl, a, _, rfl, get_turn h6, _, _, rfl, rfl, .inr ⟨by decide, by decide⟩, _, _, rfl, rfl, .inl ⟨_, rfl, _, _, rfl, rfl, (by decide : (0 : Int) < 998244353), ?_⟩⟩
          have b1 := Int.emod_nonneg (m0 + (t0 + 1) * 104729) (by decide : (998244353 : Int) ≠ 0)
          have b2 := Int.emod_lt_of_pos (m0 + (t0 + 1) * 104729) (by decide : (0 : Int) < 998244353)
          refine ⟨_, rfl, _, rfl, _, _, rfl, rfl, .inl ⟨by omega, by omega⟩, _, rfl, a, _, rfl, get_turn h6, _, _, rfl, rfl, .inr ⟨by decide, by decide⟩, _, _, rfl, rfl, .inl ⟨_, rfl, _, _, rfl, rfl, (by decide : (0 : Int) < 2147483647), ?_⟩⟩
          refine ⟨_, rfl, _, rfl, a, _, rfl, put_mixed h6, ?_⟩
          refine ⟨_, rfl, _, _, rfl, rfl, ⟨by decide, by decide⟩, .inl ⟨_, rfl, _, rfl, _, _, rfl, rfl, pos, ?_⟩⟩
          obtain ⟨r, er, hr2⟩ := nat_of (((m0 + (t0 + 1) * 104729) % 998244353 * ((m0 + (t0 + 1) * 104729) % 998244353) + (t0 + 1) * 17) % 2147483647 / 16) (Int.emod_nonneg _ (by omega)) (Int.emod_lt_of_pos _ pos)
          show Q (.int ((((m0 + (t0 + 1) * 104729) % 998244353 * ((m0 + (t0 + 1) * 104729) % 998244353) + (t0 + 1) * 17) % 2147483647 / 16) % many)) _
          rw [← er]
          exact q r _ hr2 ⟨hac, ⟨_, _, _, upd_same⟩, cells, by rw [upd_ne hac.symm, upd_ne hac.symm]; exact c1⟩ ⟨(k1.trans Kp2.upd1).trans Kp2.upd1, fun z => by rw [upd_ne hac.symm, upd_ne hac.symm, c1, emp z]; rfl⟩
def spOf : Sp := fun vs H Q _ => ∃ (a c p : Addr) (xs : List V), vs = [.ref a, .ref p] ∧ Src H a c ∧ H p = some (.lst xs) ∧ p ≠ c ∧ 1 ≤ xs.length ∧ xs.length ≤ 1000000 ∧ ∀ x H', x ∈ xs → Src H' a c → KpS a c H H' → Q x H'
theorem scOf : FnScope ["_law_source_here", "_law_some"] ["_law_source_here", "_law_some"] (defScope sOf) := ⟨rfl, rfl, rfl, by decide +kernel, rfl, by decide +kernel, by decide +kernel⟩
theorem Src.ne {H : Hp} {a c p : Addr} {xs : List V} (x : Src H a c) (h : H p = some (.lst xs)) : p ≠ a := fun z => by
  obtain ⟨_, ⟨_, _, _, h2⟩, _⟩ := x
  rw [z, h2] at h
  cases h
theorem ok_of {f fX : Addr} {fd fdX : FuncData} (N : Fn K mg "_law_of" sOf f fd ["_law_source_here", "_law_some"]) (NX : Fn K mg "_law_pick" sPick fX fdX ["_law_source_here", "_law_many"]) (T : GT K mg)
    (GX : FnOk P w K mg base CX0 1 fX fdX ["_law_source_here", "_law_many"] spPick) : FnOk P w K mg base CX0 2 f fd ["_law_source_here", "_law_some"] spOf := by
  refine N.F.ok scOf (fun vs H Q E h => ?_) (fun cdv A outer s H vs Q E hr h => ?_)
  · obtain ⟨_, _, _, _, rfl, _⟩ := h
    rfl
  · obtain ⟨a, c, p, xs, rfl, hs, hp, hpc, h1, h2, q⟩ := h
    refine ⟨_, pss_one (ps_ret (pe_ix ix_list (pv 1) (pe_call GX hr (by rfl) NX.g NX.F.kp NX.b .nil pass0 (pa_cons (pv 0) (pa_cons (pe_callB call_len (by rfl) T.len PySem.boot_len (pa_cons (pv 1) pa_nil)) pa_nil))) (fun _ _ => rfl))), ?_⟩
    refine ⟨_, rfl, _, rfl, _, rfl, .ref p, _, rfl, .inl ⟨_, SqL.of hp, rfl⟩, ?_⟩
    refine ⟨a, c, xs.length, rfl, hs, by omega, by omega, fun r H' hr' hs' k => ?_⟩
    have hpa := hs.ne hp
    have hr2 : r < xs.length := by omega
    exact ⟨p, xs, r, xs[r], rfl, rfl, SqL.of (k.k _ _ hp hpa hpc), atI_nat (List.getElem?_eq_getElem hr2), q _ _ (List.getElem_mem hr2) hs' k⟩
theorem sql_same {K : PySem.W.Frag} {H H' : Hp} {p : Addr} {xs : List V} (k : Same H H') (x : SqL K H p xs) : SqL K H' p xs := by
  rcases x with h | h
  · exact .inl (h.imp (k _ _) fun ⟨o, e⟩ => ⟨o, k _ _ e⟩)
  · exact .inr h
def spSource (K : PySem.W.Frag) : Sp := fun vs H Q _ => ∃ (s : Addr) (ns : List Int), vs = [.ref s] ∧ SqL K H s (ns.map V.int) ∧ ns.length ≤ 1000000 ∧ ∀ a c H', Same H H' → H a = none → H c = none → Src H' a c → Q (.ref a) H'
theorem scSource : FnScope ["_law_script", "_law_mixed", "_law_cell"] ["_law_script"] (defScope sSource) := ⟨rfl, rfl, rfl, by decide +kernel, rfl, by decide +kernel, by decide +kernel⟩
theorem ok_source {f : Addr} {fd : FuncData} (N : Fn K mg "_law_source" sSource f fd ["_law_script"]) (T : GT K mg) : FnOk P w K mg base CX0 1 f fd ["_law_script"] (spSource K) := by
  refine N.F.ok scSource (fun vs H Q E h => ?_) (fun cdv A outer s H vs Q E hr h => ?_)
  · obtain ⟨_, _, rfl, _⟩ := h
    rfl
  · obtain ⟨a0, ns, rfl, hs, hz, q⟩ := h
    refine ⟨_, pss_cons (ps_set (i := 1) scSource.nd rfl (Or.inl rfl) pe_int)
      (pss_cons (ps_for PassesOwn.never rfl (pi_list (pv 0)) (pg_name (i := 2) scSource.nd rfl (Or.inl rfl))
        (pss_one (ps_set (i := 1) scSource.nd rfl (Or.inl rfl) (pe_op op_mod (pe_callTy call_int1 (by rfl) T.int (by decide +kernel) (pa_cons (pe_op op_add (pe_op op_add (pe_op op_mul (pv 1) pe_int) (pe_op op_mul (pv 2) pe_int)) pe_int) pa_nil)) pe_int))))
      (pss_one (ps_ret (pe_disp (pps_cons pe_str (pe_revL (pe_lc (own := [("_law_cell", 2)]) (g := gName 2) (tt := tYes) rfl scSource.nd (pi_list (pv 0)) (blkOk_by (N := ["_law_script", "_law_mixed", "_law_cell"]) (sc := defScope sSource) (by decide +kernel)) (fun _ _ _ _ _ => pg_name (i := 2) scSource.nd rfl (Or.inl rfl)) (fun _ _ _ _ _ => pts_nil)
          (fun _ _ _ _ _ => pe_callB call_abs (by rfl) T.abs (by decide +kernel) (pa_cons (pv 2) pa_nil)))) (pps_cons pe_str pe_int (pps_cons pe_str (pv 1) (pps_cons pe_str pe_int pps_nil)))) rfl rfl (by intro z; cases z) (show 4 ≤ 15 from by decide))))), ?_⟩
    have z0 : sizeLine = 16777216 := sizeLine_eq
    refine ⟨_, rfl, a0, rfl, ⟨_, hs⟩, for_it walk_list (fun i σ H' => H' = H ∧ ∃ (m : Int) (r : Option V), σ = [some (.ref a0), some (.int m), r]) ⟨rfl, 11, none, rfl⟩ (fun _ _ _ _ z => by rw [z.1]; exact hs) ?_ ?_⟩
    · rintro i x σ H1 H2 hi ⟨rfl, m, r, rfl⟩ ⟨rfl, hx⟩
      rw [List.getElem?_map] at hx
      obtain ⟨n, hn, rfl⟩ : ∃ n : Int, ns[i]? = some n ∧ V.int n = x := by
        cases e : ns[i]? with
        | none => rw [e] at hx; cases hx
        | some n => rw [e] at hx; exact ⟨n, rfl, Option.some.inj hx⟩
      refine ⟨_, rfl, _, _, rfl, rfl, .inr ⟨by decide, by decide⟩, _, rfl, _, _, rfl, rfl, .inr ⟨by decide, by decide⟩, _, _, rfl, rfl, _, _, rfl, rfl, .inl ⟨_, rfl, _, _, rfl, rfl, (by decide : (0 : Int) < 2147483629), rfl, _, _, rfl⟩⟩
    · rintro σ H1 ⟨rfl, m, r, rfl⟩
      refine fun d hd => ?_
      have s1 := same_upd (o := .dK []) hd
      have nd : d ≠ a0 ∨ True := .inr trivial
      have hs1 : SqL K (upd H1 d (.dK [])) a0 (ns.map V.int) := sql_same s1 hs
      refine ⟨_, rfl, a0, rfl, ⟨_, hs1⟩, fun D hD => lc_it walk_list (fun i H' => Same (upd H1 d (.dK [])) H' ∧ H' D = some (.lst ((ns.take i).map fun n => V.int (if n < 0 then -n else n)))) ⟨same_upd hD, upd_same⟩ (fun _ _ _ z => sql_same z.1 hs1) ?_ ?_⟩
      · rintro i x H2 H3 hi ⟨s2, h2⟩ ⟨rfl, hx⟩
        rw [List.getElem?_map] at hx
        obtain ⟨n, hn, rfl⟩ : ∃ n : Int, ns[i]? = some n ∧ V.int n = x := by
          cases e : ns[i]? with
          | none => rw [e] at hx; cases hx
          | some n => rw [e] at hx; exact ⟨n, rfl, Option.some.inj hx⟩
        refine ⟨rfl, yes_of (iteT ?_)⟩
        refine ⟨_, rfl, n, rfl, _, h2, by rw [List.length_map, List.length_take]; omega, fun b' o' e' => ?_, ?_⟩
        · rw [upd_ne (ne_of_none e' hD)]; exact s2 _ _ e'
        · rw [upd_same, List.take_add_one, hn, List.map_append]
          rfl
      · rintro H2 ⟨s2, h2⟩
        refine ⟨D, _, rfl, SqL.of h2, fun p hp => ?_⟩
        have hd2 : H2 d = some (.dK []) := s2 _ _ upd_same
        have hpd : d ≠ p := fun z => by rw [← z, hd2] at hp; cases hp
        have s3 := s2.trans (same_upd (o := .lst ((((ns.take (List.map V.int ns).length).map fun n => V.int (if n < 0 then -n else n))).reverse)) hp)
        refine ⟨_, rfl, s3 _ _ upd_same, [(.inr "cells", .ref p), (.inr "left", .int 1), (.inr "mixed", .int m), (.inr "turn", .int 0)], rfl, (show 4 ≤ 15 from by decide), ?_⟩
        have em : mergeK [] [((.inr "cells" : L2.Key), V.ref p), (.inr "left", .int 1), (.inr "mixed", .int m), (.inr "turn", .int 0)] = srcK p 1 m 0 := by
          simp [mergeK, putK, srcK, n_cl, n_cm, n_ct, n_lm, n_lt, n_mt]
        rw [em]
        have sf : Same H1 (upd (upd H2 p (.lst ((((ns.take (List.map V.int ns).length).map fun n => V.int (if n < 0 then -n else n))).reverse))) d (.dK (srcK p 1 m 0))) := fun b o e => by
          rw [upd_ne (ne_of_none e hd)]
          exact s3 _ _ (s1 _ _ e)
        have hp1 : H1 p = none := (s1.trans s2).free hp
        refine q d p _ sf hd hp1 ⟨hpd, ⟨_, _, _, upd_same⟩, ((ns.take (List.map V.int ns).length).map fun n => if n < 0 then -n else n).reverse, ?_⟩
        rw [upd_ne hpd.symm, upd_same, List.map_reverse, List.map_map]
        rfl
end
end K10
set_option maxHeartbeats 4000000
namespace K10
open PySem PySem.Spec PyProof.Rows L2
section
variable {X : Cx}
def byLen (x y : Addr × List V) : Bool := decide ((x.2.length : Int) ≤ y.2.length)
def tSortLen (K : PySem.W.Frag) (ta : TA) : TE := fun σ H Q => ta σ H fun vs H1 => ∃ (a : Addr) (ls : List (Addr × List V)), vs = [.ref a] ∧ SqL K H1 a (ls.map fun x => V.ref x.1) ∧ (∀ x ∈ ls, H1 x.1 = some (.lst x.2)) ∧
  ∀ p, H1 p = none → Q (.ref p) (upd H1 p (.lst ((ls.mergeSort byLen).map fun x => V.ref x.1)))
theorem each_refs {vs : List Value} {ls : List (Addr × List V)} (e : PySem.W.EachIs (fun v (x : Addr × List V) => v = .ref x.1) vs ls) : Vals (ls.map fun x => V.ref x.1) vs := by
  induction e with
  | nil => exact .nil
  | cons h _ i => exact .cons h i
theorem refs_each : ∀ {ls : List (Addr × List V)} {vs : List Value}, Vals (ls.map fun x => V.ref x.1) vs → PySem.W.EachIs (fun v (x : Addr × List V) => v = .ref x.1) vs ls
  | [], _, h => by cases h; exact .nil
  | x :: ls, _, h => by
    cases h with
    | cons r t => exact .cons r (refs_each t)
theorem pe_sortLen {e : Expr} {ta : TA} {p p2 kpos pos : Pos} (hu : X.A.units + 64 < cLine) (hg : Gl X "sorted") (hm : X.mg "sorted" = none) (hgl : Gl X "len") (hml : X.mg "len" = none) (ha : PA X [e] ta)
    (he : backTo pos (starEach [e] X.env) = [(false, eval e X.env)] := by rfl) (hpl : (backTo pos (starEach [e] X.env)).any (·.1) = false := by rfl) :
    PE X (.Call (.Name "sorted" p) [e] [⟨some "key", .Name "len" p2, kpos⟩] pos) (tSortLen X.K ta) := by
  refine ⟨fun pins s σ H Q I h => ?_⟩
  refine wpAny_Call_Name_kw (ld_blt (u := .builtin "sorted") I hg hm (by decide +kernel) ?_)
  refine PyProof.Rows.callWith_kw (thn (ha.run pos pins s σ H _ I h) fun us s1 hh => ?_) he hpl rfl rfl
  obtain ⟨vs, H1, I1, r1, a, ls, rfl, hs, hls, q⟩ := hh
  obtain rfl := Vals.ref1 r1
  show wpAny _ _ (evalAll [(do let v ← eval (.Name "len" p2) X.env; standAt pos; pure v)]) _ _ s1
  refine wpAny_evalAll_cons (wpAny_bind (ld_blt (u := .builtin "len") I1 hgl hml PySem.boot_len (wpAny_bind (wpAny_standAt (wpAny_pure (wpAny_evalAll_nil ?_))))))
  show wpAny _ _ (call (.builtin "sorted") [.ref a] [(Str.ofString "key", .builtin "len")]) _ _ s1
  obtain ⟨its, rv, pl, hz⟩ := I1.list hs
  have each := refs_each rv
  have zl : ls.length ≤ sizeLine := by rw [List.length_map] at hz; exact hz
  refine PySem.W.sorted_key_data (b := false) (vs := its) (fun x : Addr × List V => .int (x.2.length : Nat)) pl.isList each (PySem.W.AllAlike.of fun _ _ => rfl) (PySem.W.Sortable.others fun _ => ⟨(by intro z; cases z), (by intro _ z; cases z)⟩) zl (fun x _ => ?_) (PyProof.Rows.ksk_s1 _ _) (fun _ => PyProof.Rows.ksk_l1 _ _) (fun _ => PyProof.Rows.ksk_t4 _ _)
    (fun v x hv hx h tk kp => ?_) fun out c h' tk kp fr hD hol eo => ?_
  · have : (PyData.int (x.2.length : Nat)).depth = 0 := by simp [PyData.depth]
    omega
  · subst hv
    obtain ⟨its2, rv2, pl2, hz2⟩ := I1.list (SqL.of (hls x hx))
    have l2 : (⟨h, s1.gens, s1.drawn, tk, s1.os⟩ : Shared).heap.IsList x.1 its2.toArray := by
      obtain ⟨o, ho, r⟩ := pl2.isList
      exact ⟨o, kp _ _ ho, r⟩
    have ez : its2.toArray.size = x.2.length := by rw [List.size_toArray, rv2.length]
    have z0 : sizeLine = 16777216 := sizeLine_eq
    refine Calls.call_len_list l2 (by rw [ez]; omega) ⟨h, tk + 1 + 1, rfl, fun _ _ e => e, ?_⟩
    rw [ez]
    exact .int _ _
  · rw [PySem.W.dataLe_int] at eo
    have eo' : PySem.W.EachIs (fun v (x : Addr × List V) => v = .ref x.1) out (ls.mergeSort byLen) := eo
    have rv' := each_refs eo'
    have hlen : ((ls.mergeSort byLen).map fun x => V.ref x.1).length ≤ sizeLine := by rw [List.length_map, List.length_mergeSort]; exact zl
    exact ⟨.ref _, upd H1 (s1.heap.objs.size + 1) (.lst ((ls.mergeSort byLen).map fun x => V.ref x.1)), I1.laid (t' := tk) kp (Nat.le_succ _) ⟨hlen, out, c, rv', hD⟩, rfl, q _ (I1.hok.fresh (Nat.le_succ _))⟩
end
end K10
set_option maxHeartbeats 4000000
namespace K10
def terms : List Cs := [[40], [41], [123], [125], [59], [111], wTable, wPlan, wRound, wLeft, wRight]
def wt (s : Cs) : Nat :=
  match ntOf s with
  | none => 1
  | some .shape => 2
  | some .table => 8
  | some .last => 13
  | some (.f .sh) => 4
  | some (.f .tab) => 10
  | some (.f .pl) => 19
  | some _ => 1
def bs (s : Cs) : Nat :=
  match ntOf s with
  | none => if s = wEnd then 0 else 30
  | some .shape => 20
  | some .table => 20
  | some _ => 0
def wsum (l : List Cs) : Nat := (l.map wt).sum
def bon (f : Nat) : List Cs → Nat
  | [] => 0
  | s :: _ => if f < 40 then bs s else 0
def Phi (f : Nat) (stk : List Cs) : Nat := 40 * (40 - f) + wsum stk + (30 - bon f stk)
theorem bs_le (s : Cs) : bs s ≤ 30 := by
  unfold bs
  split
  · split <;> omega
  · omega
  · omega
  · omega
theorem bon_le (f : Nat) (stk : List Cs) : bon f stk ≤ 30 := by
  cases stk with
  | nil => exact Nat.zero_le _
  | cons s r =>
    show (if f < 40 then bs s else 0) ≤ 30
    have := bs_le s
    split <;> omega
theorem wsum_cons (s : Cs) (l : List Cs) : wsum (s :: l) = wt s + wsum l := by
  unfold wsum
  rw [List.map_cons, List.sum_cons]
theorem wsum_append (a b : List Cs) : wsum (a ++ b) = wsum a + wsum b := by
  unfold wsum
  rw [List.map_append, List.sum_append]
theorem wt_pos (s : Cs) : 1 ≤ wt s := by
  unfold wt
  split <;> omega
theorem wsum_len : ∀ l : List Cs, l.length ≤ wsum l
  | [] => Nat.le_refl _
  | s :: l => by
    have h := wsum_len l
    have h1 := wt_pos s
    rw [wsum_cons]
    show l.length + 1 ≤ _
    omega
theorem phi_tm {f : Nat} {s : Cs} {rest : List Cs} (h : ntOf s = none) (he : s ≠ wEnd) : Phi (f + 1) rest < Phi f (s :: rest) := by
  have w1 : wt s = 1 := by unfold wt; rw [h]
  have b1 : bs s = 30 := by unfold bs; rw [h]; simp only; rw [if_neg he]
  have hb := bon_le (f + 1) rest
  have hs : bon f (s :: rest) = if f < 40 then bs s else 0 := rfl
  unfold Phi
  rw [wsum_cons, w1, hs, b1]
  by_cases hf : f < 40
  · rw [if_pos hf]
    omega
  · rw [if_neg hf]
    omega
theorem phi_end {f : Nat} {rest : List Cs} : Phi f rest < Phi f (wEnd :: rest) := by
  have w1 : wt wEnd = 1 := rfl
  have b1 : bon f (wEnd :: rest) = 0 := by
    show (if f < 40 then bs wEnd else 0) = 0
    split <;> rfl
  unfold Phi
  rw [wsum_cons, w1, b1]
  omega
def c1 (s : Cs) : List Cs → Bool
  | [] => decide (bs s < wt s)
  | x :: r => decide (wsum (x :: r) + bs s < wt s + bs x)
def folsOf (n : NT) : List (List Cs) := (rowsOf n).map (·.2)
def least (n : NT) (fol : List Cs) : Bool := (folsOf n).all fun g => decide (fol.length ≤ g.length)
def pc (l : List Cs) : Nat := (l.filter fun s => decide (s = [40])).length
def sym (s : Cs) : Bool := (ntOf s).isSome || decide (s ∈ terms) || decide (s = wEnd)
theorem c_all : (allNT.all fun n => (folsOf n).all fun fol => c1 (ntS n) fol && (!least n fol || (decide (wsum fol < wt (ntS n)) && decide (pc fol = 0))) && decide (pc fol.tail = 0) && fol.all sym && decide (fol.length ≤ 6)) = true := by decide +kernel
structure FolOk (n : NT) (fol : List Cs) : Prop where
  c1 : c1 (ntS n) fol = true
  c2 : least n fol = true → wsum fol < wt (ntS n) ∧ pc fol = 0
  tl : pc fol.tail = 0
  sy : ∀ s ∈ fol, sym s = true
  len : fol.length ≤ 6
theorem mem_all' (n : NT) : n ∈ allNT := by
  cases n with
  | f m => cases m <;> simp [allNT]
  | _ => simp [allNT]
theorem fol_ok {n : NT} {fol : List Cs} (h : fol ∈ folsOf n) : FolOk n fol := by
  have := List.all_eq_true.mp (List.all_eq_true.mp c_all n (mem_all' n)) fol h
  simp only [Bool.and_eq_true, Bool.or_eq_true, Bool.not_eq_true', decide_eq_true_eq] at this
  obtain ⟨⟨⟨⟨a, b⟩, c⟩, d⟩, e⟩ := this
  exact ⟨a, fun h => b.resolve_left (by rw [h]; decide), c, fun s hs => List.all_eq_true.mp d s hs, e⟩
theorem phi_nt {f : Nat} {n : NT} {fol rest : List Cs} (h : FolOk n fol) (hl : 40 ≤ f → least n fol = true) : Phi f (fol ++ rest) < Phi f (ntS n :: rest) := by
  have hs : bon f (ntS n :: rest) = if f < 40 then bs (ntS n) else 0 := rfl
  have hb := bs_le (ntS n)
  unfold Phi
  rw [wsum_cons, wsum_append, hs]
  by_cases hf : f < 40
  · rw [if_pos hf]
    have h1 := h.c1
    cases fol with
    | nil =>
      have h1 : bs (ntS n) < wt (ntS n) := of_decide_eq_true h1
      have : bon f ([] ++ rest) ≤ 30 := bon_le _ _
      have w0 : wsum [] = 0 := rfl
      omega
    | cons x r =>
      have h1 : wsum (x :: r) + bs (ntS n) < wt (ntS n) + bs x := of_decide_eq_true h1
      have e : bon f (x :: r ++ rest) = bs x := if_pos hf
      have hx := bs_le x
      rw [e]
      omega
  · rw [if_neg hf]
    have h2 := (h.c2 (hl (by omega))).1
    have : bon f (fol ++ rest) ≤ 30 := bon_le _ _
    omega
theorem pc_append (a b : List Cs) : pc (a ++ b) = pc a + pc b := by
  unfold pc
  rw [List.filter_append, List.length_append]
theorem pc_cons (s : Cs) (l : List Cs) : pc (s :: l) = (if s = [40] then 1 else 0) + pc l := by
  unfold pc
  rw [List.filter_cons]
  by_cases h : s = [40]
  · rw [if_pos h, if_pos (decide_eq_true h), List.length_cons]
    omega
  · rw [if_neg h, if_neg (by rw [decide_eq_false h]; decide)]
    omega
/-- what stays true while signs are drawn -/
structure DI (stk found : List Cs) : Prop where
  tl : pc stk.tail = 0
  ge : 40 ≤ found.length → pc stk = 0
  fo : pc found ≤ min found.length 40
  ts : ∀ w ∈ found, w ∈ terms
  sy : ∀ s ∈ stk, sym s = true
  sz : found.length + Phi found.length stk ≤ 1700
theorem DI.nt {n : NT} {fol rest found : List Cs} (x : DI (ntS n :: rest) found) (h : fol ∈ folsOf n) (hl : 40 ≤ found.length → least n fol = true) : DI (fol ++ rest) found ∧ Phi found.length (fol ++ rest) < Phi found.length (ntS n :: rest) := by
  have F := fol_ok h
  have lt := phi_nt (rest := rest) F hl
  have t0 : pc rest = 0 := x.tl
  refine ⟨⟨?_, fun z => ?_, x.fo, x.ts, fun s hs => ?_, ?_⟩, lt⟩
  · cases fol with
    | nil =>
      show pc rest.tail = 0
      cases rest with
      | nil => rfl
      | cons s r => rw [pc_cons] at t0; show pc r = 0; omega
    | cons s r =>
      show pc (r ++ rest) = 0
      have := F.tl
      have this : pc r = 0 := this
      rw [pc_append]
      omega
  · have := (F.c2 (hl z)).2
    rw [pc_append]
    omega
  · rcases List.mem_append.mp hs with z | z
    · exact F.sy s z
    · exact x.sy s (List.Mem.tail _ z)
  · have := x.sz
    omega
theorem DI.tm {s : Cs} {rest found : List Cs} (x : DI (s :: rest) found) (h : ntOf s = none) (he : s ≠ wEnd) : DI rest (found ++ [s]) ∧ Phi (found ++ [s]).length rest < Phi found.length (s :: rest) := by
  have el : (found ++ [s]).length = found.length + 1 := by rw [List.length_append]; rfl
  have lt := phi_tm (f := found.length) (rest := rest) h he
  have t0 : pc rest = 0 := x.tl
  have hp : pc [s] = if s = [40] then 1 else 0 := by rw [pc_cons]; rfl
  rw [el]
  refine ⟨⟨?_, fun z => t0, ?_, fun w hw => ?_, fun s' hs => x.sy s' (List.Mem.tail _ hs), ?_⟩, lt⟩
  · cases rest with
    | nil => rfl
    | cons s r => rw [pc_cons] at t0; show pc r = 0; omega
  · rw [pc_append, hp, el]
    have h1 := x.fo
    by_cases e : s = [40]
    · have : ¬ 40 ≤ found.length := fun z => by
        have := x.ge z
        rw [pc_cons, if_pos e] at this
        omega
      rw [if_pos e]
      omega
    · rw [if_neg e]
      omega
  · rcases List.mem_append.mp hw with z | z
    · exact x.ts w z
    · rw [List.mem_singleton.mp z]
      have := x.sy s (List.Mem.head _)
      unfold sym at this
      rw [h] at this
      simp only [Option.isSome_none, Bool.false_or, Bool.or_eq_true, decide_eq_true_eq] at this
      exact this.resolve_right he
  · rw [el]
    have := x.sz
    omega
theorem DI.end {rest found : List Cs} (x : DI (wEnd :: rest) found) : DI rest found ∧ Phi found.length rest < Phi found.length (wEnd :: rest) := by
  have lt := phi_end (f := found.length) (rest := rest)
  have t0 : pc rest = 0 := x.tl
  refine ⟨⟨?_, fun z => t0, x.fo, x.ts, fun s' hs => x.sy s' (List.Mem.tail _ hs), ?_⟩, lt⟩
  · cases rest with
    | nil => rfl
    | cons s r => rw [pc_cons] at t0; show pc r = 0; omega
  · have := x.sz
    omega
theorem DI.start (fm : Fm) : DI [fmS fm] [] := by
  refine ⟨rfl, fun z => absurd z (by decide), Nat.le_refl _, (by intro _ z; cases z), ?_, ?_⟩
  · intro s hs
    rw [List.mem_singleton.mp hs]
    cases fm <;> rfl
  · cases fm <;> decide
end K10
namespace K10
open PySem PySem.Spec PyProof.Rows L2
open SX (S S_len S_inj S_cat)
abbrev sDrawn : Stmt := tp 44
theorem list_kps {H H' : Hp} {a c p : Addr} {xs : List V} (hs : Src H a c) (k : KpS a c H H') (h : H p = some (.lst xs)) (hx : ∀ i : Int, xs.head? ≠ some (.int i)) : H' p = some (.lst xs) := by
  by_cases e : p = c
  · subst e
    obtain ⟨_, _, cells, hc⟩ := hs
    rw [h] at hc
    have e1 := HO.lst.inj (Option.some.inj hc)
    cases cells with
    | nil =>
      rw [e1] at h ⊢
      exact k.e h
    | cons i r =>
      rw [e1] at hx
      exact absurd rfl (hx i)
  · exact k.k _ _ h (hs.ne h) e
theorem lstS_head (l : List Cs) (i : Int) : (lstS l).head? ≠ some (.int i) := by
  cases l with
  | nil => intro z; cases z
  | cons s r => intro z; cases z
theorem LstAt.kps {H H' : Hp} {a c : Addr} (hs : Src H a c) (k : KpS a c H H') {v : V} {l : List Cs} (x : LstAt H v l) : LstAt H' v l := by
  obtain ⟨p, e, h⟩ := x
  exact ⟨p, e, list_kps hs k h (lstS_head l)⟩
theorem FstAt.kps {H H' : Hp} {a c : Addr} (hs : Src H a c) (k : KpS a c H H') {v : V} {f : Option (List Cs)} (x : FstAt H v f) : FstAt H' v f := by
  cases f with
  | none => exact x
  | some l => exact LstAt.kps hs k x
theorem RowAt.kps {H H' : Hp} {a c : Addr} (hs : Src H a c) (k : KpS a c H H') {v : V} {r : Row} (x : RowAt H v r) : RowAt H' v r := by
  obtain ⟨p, x, y, e, h, h1, h2⟩ := x
  refine ⟨p, x, y, e, list_kps hs k h (fun i z => ?_), h1.kps hs k, h2.kps hs k⟩
  have z : some x = some (.int i) := z
  have z := Option.some.inj z
  rw [z] at h1
  cases hr : r.1 with
  | none => rw [hr] at h1; cases h1
  | some l => rw [hr] at h1; obtain ⟨_, e, _⟩ := h1; cases e
theorem RowsV.kps {H H' : Hp} {a c : Addr} (hs : Src H a c) (k : KpS a c H H') {v : List V} {r : List Row} (x : RowsV H v r) : RowsV H' v r := by
  induction x with
  | nil => exact .nil
  | cons h _ i => exact .cons (h.kps hs k) i
theorem RowsAt.kps {H H' : Hp} {a c : Addr} (hs : Src H a c) (k : KpS a c H H') {v : V} {r : List Row} (x : RowsAt H v r) : RowsAt H' v r := by
  obtain ⟨p, vs, e, h, t⟩ := x
  refine ⟨p, vs, e, list_kps hs k h (fun i z => ?_), t.kps hs k⟩
  cases t with
  | nil => cases z
  | cons h' _ =>
    obtain ⟨_, _, _, e, _⟩ := h'
    rw [e] at z
    cases z
theorem Tab.kps {H H' : Hp} {a c : Addr} (hs : Src H a c) (k : KpS a c H H') {kvs : List (L2.Key × V)} {ns : List NT} (x : Tab H kvs ns) : Tab H' kvs ns := by
  induction x with
  | nil => exact .nil
  | cons h _ i => exact .cons (h.kps hs k) i
theorem RulesAt.ne {H : Hp} {a c r : Addr} (hs : Src H a c) (x : RulesAt H r) : r ≠ a ∧ r ≠ c := by
  obtain ⟨kvs, h, t⟩ := x
  obtain ⟨_, ⟨l, m, tt, h1⟩, cells, h2⟩ := hs
  refine ⟨fun z => ?_, fun z => ?_⟩
  · rw [z, h1] at h
    have e := HO.dK.inj (Option.some.inj h)
    rw [← e] at t
    have := t.len
    exact absurd this (show ¬ ((4 : Nat) = 9) from by decide)
  · rw [z, h2] at h
    cases h
theorem RulesAt.kps {H H' : Hp} {a c r : Addr} (hs : Src H a c) (k : KpS a c H H') (x : RulesAt H r) : RulesAt H' r := by
  have n := x.ne hs
  obtain ⟨kvs, h, t⟩ := x
  exact ⟨kvs, k.k _ _ h n.1 n.2, t.kps hs k⟩
theorem LstsV.get {H : Hp} {vs : List V} {ls : List (List Cs)} (x : LstsV H vs ls) {v : V} (h : v ∈ vs) : ∃ l, l ∈ ls ∧ LstAt H v l := by
  induction x with
  | nil => cases h
  | @cons v' vs' l ls' h' _ i =>
    rcases List.mem_cons.mp h with z | z
    · rw [z]; exact ⟨l, List.Mem.head _, h'⟩
    · obtain ⟨l', a, b⟩ := i z
      exact ⟨l', List.Mem.tail _ a, b⟩
/-- the lists as sorted wants them -/
theorem LstsV.pairs {H : Hp} {vs : List V} {ls : List (List Cs)} (x : LstsV H vs ls) : ∃ ps : List (Addr × List V), vs = ps.map (fun x => V.ref x.1) ∧ (∀ x ∈ ps, H x.1 = some (.lst x.2)) ∧ ps.map (·.2) = ls.map lstS := by
  induction x with
  | nil => exact ⟨[], rfl, (by intro _ z; cases z), rfl⟩
  | @cons v vs l ls h _ i =>
    obtain ⟨ps, e1, e2, e3⟩ := i
    obtain ⟨p, rfl, hp⟩ := h
    refine ⟨(p, lstS l) :: ps, by rw [e1]; rfl, fun x hx => ?_, by rw [List.map_cons, List.map_cons, e3]⟩
    rcases List.mem_cons.mp hx with z | z
    · rw [z]; exact hp
    · exact e2 x z
theorem byLen_head {ps : List (Addr × List V)} (h : ps ≠ []) : ∃ x r, ps.mergeSort byLen = x :: r ∧ x ∈ ps ∧ ∀ y ∈ ps, x.2.length ≤ y.2.length := by
  have pw : (ps.mergeSort byLen).Pairwise (fun x y => byLen x y = true) := List.pairwise_mergeSort (fun a b c h1 h2 => by
    unfold byLen at *
    have := of_decide_eq_true h1
    have := of_decide_eq_true h2
    exact decide_eq_true (by omega)) (fun a b => by
    unfold byLen
    rw [Bool.or_eq_true]
    by_cases h : (a.2.length : Int) ≤ b.2.length
    · exact .inl (decide_eq_true h)
    · exact .inr (decide_eq_true (by omega))) ps
  cases e : ps.mergeSort byLen with
  | nil =>
    have := congrArg List.length e
    rw [List.length_mergeSort] at this
    exact absurd (List.eq_nil_of_length_eq_zero this) h
  | cons x r =>
    rw [e] at pw
    have hx : x ∈ ps := by
      rw [← List.mem_mergeSort (le := byLen), e]
      exact List.Mem.head _
    refine ⟨x, r, rfl, hx, fun y hy => ?_⟩
    have hy' : y ∈ ps.mergeSort byLen := List.mem_mergeSort.mpr hy
    rw [e] at hy'
    rcases List.mem_cons.mp hy' with z | z
    · rw [z]; exact Nat.le_refl _
    · have := List.rel_of_pairwise_cons pw z
      have := of_decide_eq_true this
      omega
end K10
set_option maxHeartbeats 4000000
namespace K10
open PySem PySem.Spec PyProof.Rows L2
open SX (S S_len S_inj S_cat)
section
variable {P : Program} {w : World} {K : PySem.W.Frag} {mg : Str → Option Value} {base : Heap}
abbrev nDrawn : List Str := ["_law_source_here", "_law_rules_here", "_law_form", "_law_stack", "_law_found", "_law_top", "_law_rows", "_law_short", "_law_row"]
theorem scDrawn : FnScope nDrawn ["_law_source_here", "_law_rules_here", "_law_form"] (defScope sDrawn) := ⟨rfl, rfl, rfl, by decide +kernel, rfl, by decide +kernel, by decide +kernel⟩
def spDrawn : Sp := fun vs H Q _ => ∃ (a c r : Addr) (fm : Fm), vs = [.ref a, .ref r, .str (S (fmS fm))] ∧ Src H a c ∧ RulesAt H r ∧
  ∀ l ws H', KpS a c H H' → Src H' a c → H l = none → H' l = some (.lst (lstS ws)) → (∀ w ∈ ws, w ∈ terms) → ws.length ≤ 1700 → pc ws ≤ 40 → Q (.ref l) H'
theorem ok_drawn {f fX : Addr} {fd fdX : FuncData} (N : Fn K mg "_law_drawn_signs" sDrawn f fd ["_law_source_here", "_law_rules_here", "_law_form"]) (NX : Fn K mg "_law_of" sOf fX fdX ["_law_source_here", "_law_some"])
    (T : GT K mg) (GX : FnOk P w K mg base CX0 2 fX fdX ["_law_source_here", "_law_some"] spOf) : FnOk P w K mg base CX0 3 f fd ["_law_source_here", "_law_rules_here", "_law_form"] spDrawn := by
  refine N.F.ok scDrawn (fun vs H Q E h => ?_) (fun cdv A outer s H vs Q E hr h => ?_)
  · obtain ⟨_, _, _, _, rfl, _⟩ := h
    rfl
  · obtain ⟨a, c, r, fm, rfl, hs, ha, q⟩ := h
    have hu : (A.deeper (envOfC "_law_drawn_signs" (defScope sDrawn) s.heap.objs.size f cdv)).units + 1 < cLine := by have := hr.units; omega
    refine ⟨_, pss_cons (ps_par (i := 3) (j := 4) rfl scDrawn.nd rfl rfl (by decide) rfl rfl (pa_cons (pe_lst (pa_cons (pv 2) pa_nil)) (pa_cons (pe_lst pa_nil) pa_nil)) (by rfl))
      (pss_cons (ps_while PassesOwn.never (pt_cmpR (op_ne_nilL hr.units0) (pv 3) (pe_lst pa_nil) (nomark _))
        (pss_cons (ps_set (i := 5) scDrawn.nd rfl (Or.inl rfl) (pe_bm0 PySem.F.plainAttrs_list PySem.F.slot_list_pop PySem.F.type_list_pop mt_pop (pv 3)))
        (pss_one (ps_if (pt_cmp (pc_din hu (pv 5) (pv 1)))
          (pss_cons (ps_setLc (i := 6) (own := [("_law_row", 8)]) (g := gName 8) (tt := tYes) (te := tOp (rIxL K) (tVar 8) (tC (.int 1))) rfl scDrawn.nd rfl rfl (sw_true rfl rfl rfl rfl) (pi_list (pe_dget hu (pv 1) (pv 5) (fun _ _ => rfl))) (blkOk_by (N := nDrawn) (sc := defScope sDrawn) (by decide +kernel)) (fun _ _ _ _ _ => pg_name (i := 8) scDrawn.nd rfl (Or.inl rfl))
              (fun _ _ _ _ _ => pts_nil)
              (fun _ _ _ _ _ => pe_ix ix_list (pv 8) pe_int (fun _ _ => rfl)))
          (pss_cons (ps_set (i := 7) scDrawn.nd rfl (Or.inl rfl) (pe_ix ix_list (pe_sortLen hr.units (by rfl) T.srt (by rfl) T.len (pa_cons (pv 6) pa_nil)) pe_int (fun _ _ => rfl)))
          (pss_one (ps_set (i := 3) scDrawn.nd rfl (Or.inl rfl) (pe_op op_cat (pv 3) (pe_revL (pe_ifExp (pt_cmpR op_lt (pe_callB call_len (by rfl) T.len PySem.boot_len (pa_cons (pv 4) pa_nil)) pe_int (nomark _)) (pe_call GX hr (by rfl) NX.g NX.F.kp NX.b .nil pass0 (pa_cons (pv 0) (pa_cons (pv 6) pa_nil))) (pv 7))))))))
          (pss_one (ps_if (pt_cmpR op_ne (pv 5) pe_str (nomark _))
            (pss_one (ps_expr (pe_bm PySem.F.plainAttrs_list PySem.F.slot_list_append PySem.F.type_list_append mt_append (pv 4) (by exact (pa_cons (pv 5) pa_nil)))))
            pss_nil))))))
      (pss_one (ps_ret (pv 4)))), ?_⟩
    have z0 : sizeLine = 16777216 := sizeLine_eq
    refine ⟨_, rfl, by show 1 ≤ sizeLine; omega, fun l hl => ⟨by show 0 ≤ sizeLine; omega, fun g hg => ⟨_, _, rfl, ?_⟩⟩⟩
    have sA := (same_upd (o := .lst [.str (S (fmS fm))]) hl).trans (same_upd (o := .lst []) hg)
    have hlg : l ≠ g := fun z => by rw [← z, upd_same] at hg; cases hg
    refine ⟨fun m σ' H' => ∃ l g stk ws r5 r6 r7, σ' = [some (.ref a), some (.ref r), some (.str (S (fmS fm))), some (.ref l), some (.ref g), r5, r6, r7, none] ∧ l ≠ g ∧ H l = none ∧ H g = none ∧ KpS a c H H' ∧ Src H' a c ∧ H' l = some (.lst (lstS stk).reverse) ∧ H' g = some (.lst (lstS ws)) ∧ DI stk ws ∧ Phi ws.length stk = m,
      ⟨_, l, g, [fmS fm], [], none, none, none, rfl, hlg, hl, (same_upd hl).free hg, KpS.of sA, hs.same sA, by rw [upd_ne hlg]; exact upd_same, upd_same, DI.start fm, rfl⟩, ?_⟩
    rintro m σ H2 ⟨l, g, stk, ws, r5, r6, r7, rfl, hlg, hl, hg, k2, hs2, h2, g2, di, rfl⟩
    refine ⟨_, rfl, by show 0 ≤ sizeLine; omega, fun u hu => ?_⟩
    have s3 := same_upd (o := .lst []) hu
    have k3 := k2.trans (KpS.of s3)
    have hs3 := hs2.same s3
    have h3 := s3 _ _ h2
    have g3 := s3 _ _ g2
    refine ⟨l, u, _, rfl, rfl, SqL.of h3, SqL.of upd_same, _, rfl, ?_⟩
    show if (!((lstS stk).reverse).isEmpty) = true then _ else _
    generalize upd H2 u (.lst []) = H3 at *
    have hsz := di.sz
    have hst := wsum_len stk
    have hph : wsum stk ≤ Phi ws.length stk := by unfold Phi; omega
    cases stk with
    | nil =>
      refine if_false_of rfl ?_
      refine ⟨_, rfl, q g ws _ k3 hs3 hg g3 di.ts (by omega) (Nat.le_trans di.fo (Nat.min_le_right _ _))⟩
    | cons top rest =>
      refine if_true_of (by rw [lstS_cons]; simp) ?_
      refine ⟨fun σ' H' => ∃ m', m' < Phi ws.length (top :: rest) ∧ ∃ l g stk ws r5 r6 r7, σ' = [some (.ref a), some (.ref r), some (.str (S (fmS fm))), some (.ref l), some (.ref g), r5, r6, r7, none] ∧ l ≠ g ∧ H l = none ∧ H g = none ∧ KpS a c H H' ∧ Src H' a c ∧ H' l = some (.lst (lstS stk).reverse) ∧ H' g = some (.lst (lstS ws)) ∧ DI stk ws ∧ Phi ws.length stk = m', fun _ _ z => z, ?_⟩
      rw [lstS_cons] at h3
      refine ⟨_, rfl, Or.inl ⟨rfl, _, Or.inl (Or.inl h3)⟩, l, _, .str (S top), rfl, rfl, h3, by simp, ?_⟩
      rw [List.dropLast_concat]
      have hla := hs3.ne h3
      have hlc : l ≠ c := fun z => by
        obtain ⟨_, _, cells, hc⟩ := hs
        rw [z, hc] at hl
        cases hl
      have kU : KpS a c H (upd H3 l (.lst (lstS rest).reverse)) := ⟨fun b o e n1 n2 => by
        rw [upd_ne (ne_of_none e hl)]
        exact k3.k _ _ e n1 n2, fun e => by rw [upd_ne hlc.symm]; exact k3.e e⟩
      have h4 : upd H3 l (.lst (lstS rest).reverse) l = some (.lst (lstS rest).reverse) := upd_same
      have g4 : upd H3 l (.lst (lstS rest).reverse) g = some (.lst (lstS ws)) := by rw [upd_ne hlg.symm]; exact g3
      have hs4 : Src (upd H3 l (.lst (lstS rest).reverse)) a c := by
        obtain ⟨n, ⟨x1, x2, x3, e1⟩, cells, e2⟩ := hs3
        exact ⟨n, ⟨x1, x2, x3, by rw [upd_ne hla.symm]; exact e1⟩, cells, by rw [upd_ne hlc.symm]; exact e2⟩
      generalize upd H3 l (.lst (lstS rest).reverse) = H4 at *
      obtain ⟨kvs, hkv, tab⟩ := ha.kps hs kU
      cases hn : ntOf top with
      | none =>
        have hv : valV kvs (.inr (S top)) = none := tab.none fun n _ => ntOf_none hn n
        refine ⟨_, rfl, _, rfl, r, none, rfl, .inl ⟨kvs, .inr (S top), .inl hkv, rfl, hv.symm⟩, _, rfl, if_false_of rfl ?_⟩
        refine ⟨_, rfl, rfl, _, rfl, ?_⟩
        rw [s_end, dec_S]
        by_cases he : top = wEnd
        · refine if_false_of (by rw [decide_eq_true he]; rfl) ?_
          subst he
          obtain ⟨di', lt⟩ := di.end
          exact ⟨_, lt, l, g, rest, ws, _, _, _, rfl, hlg, hl, hg, kU, hs4, h4, g4, di', rfl⟩
        · refine if_true_of (by rw [decide_eq_false he]; rfl) ?_
          obtain ⟨di', lt⟩ := di.tm hn he
          refine ⟨_, rfl, Or.inl ⟨rfl, _, Or.inl (Or.inl g4)⟩, _, rfl, g, lstS ws, _, rfl, rfl, g4, by rw [lstS_len]; omega, ?_⟩
          have eg : lstS ws ++ [V.str (S top)] = lstS (ws ++ [top]) := by unfold lstS; rw [List.map_append]; rfl
          rw [eg]
          have hga := hs4.ne g4
          have hgc : g ≠ c := fun z => by
            obtain ⟨_, _, cells, hc⟩ := hs
            rw [z, hc] at hg
            cases hg
          refine ⟨_, lt, l, g, rest, ws ++ [top], _, _, _, rfl, hlg, hl, hg, ⟨fun b o e n1 n2 => ?_, fun e => ?_⟩, ?_, by rw [upd_ne hlg]; exact h4, upd_same, di', rfl⟩
          · rw [upd_ne (ne_of_none e hg)]; exact kU.k _ _ e n1 n2
          · rw [upd_ne hgc.symm]; exact kU.e e
          · obtain ⟨n, ⟨x1, x2, x3, e1⟩, cells, e2⟩ := hs4
            exact ⟨n, ⟨x1, x2, x3, by rw [upd_ne hga.symm]; exact e1⟩, cells, by rw [upd_ne hgc.symm]; exact e2⟩
      | some n =>
        have et := ntOf_some hn
        obtain ⟨v, hv, p, vs, rfl, hp, rows⟩ := tab.get (mem_all n)
        rw [et] at hv
        refine ⟨_, rfl, _, rfl, r, _, rfl, .inl ⟨kvs, .inr (S top), .inl hkv, rfl, hv.symm⟩, _, rfl, if_true_of rfl ?_⟩
        have rl := rows.len
        have r3 := rowsOf_len n
        refine ⟨_, rfl, _, rfl, r, .ref p, rfl, .inl ⟨kvs, .inr (S top), .inl hkv, rfl, hv.symm⟩, p, rfl, ⟨vs, SqL.of hp⟩, fun D hD => lc_it walk_list (fun i H' => Same H4 H' ∧ ∃ ys, H' D = some (.lst ys) ∧ LstsV H4 ys ((folsOf n).take i)) ⟨same_upd hD, [], upd_same, .nil⟩ (fun _ _ _ z => SqL.of (z.1 _ _ hp)) ?_ ?_⟩
        · rintro i x H5 H6 hi ⟨s5, ys, hd, lv⟩ ⟨rfl, hx⟩
          obtain ⟨rw, hrw, p2, x0, y0, rfl, h2', f2, g2'⟩ := rows.get hx
          have etake : (folsOf n).take (i + 1) = (folsOf n).take i ++ [rw.2] := by
            have : (folsOf n)[i]? = some rw.2 := by unfold folsOf; rw [List.getElem?_map, hrw]; rfl
            rw [List.take_add_one, this]
            rfl
          have el := lv.len
          have tl := List.length_take (i := i) (l := folsOf n)
          have fl : (folsOf n).length = (rowsOf n).length := List.length_map ..
          refine ⟨rfl, yes_of (iteT ?_)⟩
          refine ⟨_, rfl, p2, _, 1, y0, rfl, rfl, SqL.of (s5 _ _ h2'), atI_nat (j := 1) rfl, ys, hd, by omega, fun b' o' e' => ?_, ys ++ [y0], upd_same, ?_⟩
          · rw [upd_ne (ne_of_none e' hD)]; exact s5 _ _ e'
          · rw [etake]
            exact lv.snoc g2'
        · rintro H5 ⟨s5, ys, hd, lv⟩
          have fl : (folsOf n).length = (rowsOf n).length := List.length_map ..
          rw [List.take_of_length_le (by omega)] at lv
          obtain ⟨ps, rfl, hps, hps2⟩ := lv.pairs
          have hne : ps ≠ [] := fun z => by
            have := lv.len
            rw [z, fl] at this
            exact absurd this (by cases n with | f m => (cases m <;> decide) | _ => decide)
          have plen : ps.length = (folsOf n).length := by
            have := lv.len
            rw [List.length_map] at this
            exact this
          obtain ⟨x, tl, ems, hx, hmin⟩ := byLen_head hne
          refine ⟨_, rfl, D, ps, rfl, SqL.of hd, fun y hy => s5 _ _ (hps y hy), fun p1 hp1 => ?_⟩
          rw [ems]
          refine ⟨p1, _, 0, .ref x.1, rfl, rfl, SqL.of upd_same, atI_nat (j := 0) rfl, ?_⟩
          have s6 := s5.trans (same_upd (o := .lst ((x :: tl).map fun x => V.ref x.1)) hp1)
          have hd6 := same_upd (o := .lst ((x :: tl).map fun x => V.ref x.1)) hp1 _ _ hd
          generalize upd H5 p1 (.lst ((x :: tl).map fun x => V.ref x.1)) = H6 at *
          have k6 := kU.trans (KpS.of s6)
          have hs6 := hs4.same s6
          have l6 := s6 _ _ h4
          have g6 := s6 _ _ g4
          have fin : ∀ (H7 : Hp) (fol : List Cs) (q1 l2 : Addr) (σ' : L2.St), σ' = [some (.ref a), some (.ref r), some (.str (S (fmS fm))), some (.ref l2), some (.ref g), some (.str (S top)), some (.ref D), some (.ref x.1), none] → KpS a c H H7 → Src H7 a c → H7 l = some (.lst (lstS rest).reverse) → H7 g = some (.lst (lstS ws)) → fol ∈ folsOf n → (40 ≤ ws.length → least n fol = true) → H7 q1 = none → (upd H7 q1 (.lst (lstS fol).reverse)) l2 = none →
              (fun (σ' : L2.St) (H' : Hp) => ∃ m', m' < Phi ws.length (top :: rest) ∧ ∃ l g stk ws r5 r6 r7, σ' = [some (.ref a), some (.ref r), some (.str (S (fmS fm))), some (.ref l), some (.ref g), r5, r6, r7, none] ∧ l ≠ g ∧ H l = none ∧ H g = none ∧ KpS a c H H' ∧ Src H' a c ∧ H' l = some (.lst (lstS stk).reverse) ∧ H' g = some (.lst (lstS ws)) ∧ DI stk ws ∧ Phi ws.length stk = m') σ' (upd (upd H7 q1 (.lst (lstS fol).reverse)) l2 (.lst ((lstS rest).reverse ++ (lstS fol).reverse))) := fun H7 fol q1 l2 σ' eσ k7 hs7 l7 g7 hf hm hq1 hl2 => by
            subst eσ
            have sB := (same_upd (o := .lst (lstS fol).reverse) hq1).trans (same_upd (o := .lst ((lstS rest).reverse ++ (lstS fol).reverse)) hl2)
            have g8 := sB _ _ g7
            rw [← et] at di
            obtain ⟨di', lt⟩ := di.nt hf hm
            rw [et] at lt
            have hlg2 : l2 ≠ g := fun z => by
              have := same_upd (o := .lst (lstS fol).reverse) hq1 _ _ g7
              rw [z, this] at hl2
              cases hl2
            have hl0 : H l2 = none := by
              cases e : H l2 with
              | none => rfl
              | some o =>
                exfalso
                by_cases e1 : l2 = a
                · obtain ⟨_, ⟨_, _, _, ea⟩, _⟩ := hs7
                  have := same_upd (o := .lst (lstS fol).reverse) hq1 _ _ ea
                  rw [e1, this] at hl2
                  cases hl2
                · by_cases e2 : l2 = c
                  · obtain ⟨_, _, _, ec⟩ := hs7
                    have := same_upd (o := .lst (lstS fol).reverse) hq1 _ _ ec
                    rw [e2, this] at hl2
                    cases hl2
                  · have := same_upd (o := .lst (lstS fol).reverse) hq1 _ _ (k7.k _ _ e e1 e2)
                    rw [this] at hl2
                    cases hl2
            exact ⟨_, lt, l2, g, fol ++ rest, ws, _, _, _, rfl, hlg2, hl0, hg, k7.trans (KpS.of sB), hs7.same sB, by rw [upd_same, lstS_app], g8, di', rfl⟩
          have folLen : ∀ fol, fol ∈ folsOf n → fol.length ≤ 6 := fun fol hf => (fol_ok hf).len
          have catLen : ∀ fol, fol ∈ folsOf n → (lstS rest).reverse.length + (lstS fol).reverse.length ≤ sizeLine := fun fol hf => by
            have := folLen fol hf
            have h9 : (top :: rest).length ≤ wsum (top :: rest) := hst
            have h8 : rest.length + 1 ≤ wsum (top :: rest) := h9
            rw [List.length_reverse, List.length_reverse, lstS_len, lstS_len]
            omega
          refine ⟨_, rfl, _, rfl, .ref g, _, rfl, .inl ⟨_, SqL.of g6, rfl⟩, _, _, rfl, rfl, _, rfl, ?_⟩
          have eln : ((lstS ws).length : Int) = (ws.length : Nat) := by rw [lstS_len]
          rw [eln]
          refine ite_both (fun hb => ?_) (fun hb => ?_)
          · have hlt : ws.length < 40 := by have := of_decide_eq_true hb; omega
            have hDc : D ≠ c := fun z => by
              obtain ⟨_, _, cells, hc⟩ := hs4
              rw [z, hc] at hD
              cases hD
            refine ⟨_, rfl, _, rfl, a, c, D, _, rfl, hs6, hd6, hDc, ?_, ?_, fun y H7 hy hs7 k7 => ?_⟩
            · rw [List.length_map]
              exact Nat.succ_le_of_lt (List.length_pos_iff.mpr hne)
            · rw [List.length_map, plen, fl]
              omega
            · obtain ⟨fol, hf, hfl⟩ := lv.get hy
              obtain ⟨p', rfl, hp'⟩ := (hfl.same s6).kps hs6 k7
              have hlc' := hlc
              have hgc : g ≠ c := fun z => by
                obtain ⟨_, _, cells, hc⟩ := hs
                rw [z, hc] at hg
                cases hg
              have l7 := k7.k _ _ l6 (hs6.ne l6) hlc
              have g7 := k7.k _ _ g6 (hs6.ne g6) hgc
              refine ⟨p', lstS fol, rfl, SqL.of hp', fun q1 hq1 => ⟨l, q1, _, _, rfl, rfl, same_upd hq1 _ _ l7, upd_same, catLen fol hf, fun l2 hl2 => ?_⟩⟩
              exact fin H7 fol q1 l2 _ rfl (k6.trans k7) hs7 l7 g7 hf (fun z => absurd z (by omega)) hq1 hl2
          · have hge : 40 ≤ ws.length := by have := of_decide_eq_false hb; omega
            have hx2 : x.2 ∈ (folsOf n).map lstS := by rw [← hps2]; exact List.mem_map.mpr ⟨x, hx, rfl⟩
            obtain ⟨fol, hf, ef⟩ := List.mem_map.mp hx2
            have hx6 := s6 _ _ (hps x hx)
            rw [← ef] at hx6
            have hle : least n fol = true := by
              unfold least
              rw [List.all_eq_true]
              intro gg hgg
              have : lstS gg ∈ ps.map (·.2) := by rw [hps2]; exact List.mem_map.mpr ⟨gg, hgg, rfl⟩
              obtain ⟨y, hy, ey⟩ := List.mem_map.mp this
              have := hmin y hy
              have ey : y.2 = lstS gg := ey
              rw [ey, ← ef, lstS_len, lstS_len] at this
              exact decide_eq_true this
            refine ⟨_, rfl, x.1, lstS fol, rfl, SqL.of hx6, fun q1 hq1 => ⟨l, q1, _, _, rfl, rfl, same_upd hq1 _ _ l6, upd_same, catLen fol hf, fun l2 hl2 => ?_⟩⟩
            exact fin H6 fol q1 l2 _ rfl k6 hs6 l6 g6 hf (fun _ => hle) hq1 hl2
end
end K10
set_option maxHeartbeats 4000000
namespace K10
/-- a word of a drawn text -/
structure WD (w : Cs) : Prop where
  pos : 1 ≤ w.length
  len : w.length ≤ 14
  br : w.count 40 ≤ 1
structure WS (k m : Nat) (ws : List Cs) : Prop where
  wd : ∀ w ∈ ws, WD w
  br : ws.flatten.count 40 ≤ k
  len : ws.length ≤ m
def okW (w : Cs) : Bool := decide (1 ≤ w.length) && decide (w.length ≤ 14) && decide (w.count 40 ≤ 1)
theorem wd_of {w : Cs} (h : okW w = true) : WD w := by
  unfold okW at h
  simp only [Bool.and_eq_true, decide_eq_true_eq] at h
  exact ⟨h.1.1, h.1.2, h.2⟩
theorem terms_ok : terms.all (fun w => okW w && decide (w.count 40 = if w = [40] then 1 else 0)) = true := by decide +kernel
theorem term_ok {w : Cs} (h : w ∈ terms) : WD w ∧ w.count 40 = if w = [40] then 1 else 0 := by
  have := List.all_eq_true.mp terms_ok w h
  rw [Bool.and_eq_true, decide_eq_true_eq] at this
  exact ⟨wd_of this.1, this.2⟩
theorem pc_count : ∀ {ws : List Cs}, (∀ w ∈ ws, w ∈ terms) → ws.flatten.count 40 = pc ws
  | [], _ => rfl
  | w :: ws, h => by
    have i := pc_count fun w' hw => h w' (List.Mem.tail _ hw)
    rw [List.flatten_cons, List.count_append, pc_cons, (term_ok (h w (List.Mem.head _))).2, i]
theorem ws_drawn {ws : List Cs} (h : ∀ w ∈ ws, w ∈ terms) (hl : ws.length ≤ 1700) (hp : pc ws ≤ 40) : WS 40 1700 ws := ⟨fun w hw => (term_ok (h w hw)).1, by rw [pc_count h]; exact hp, hl⟩
def oddW : List Cs := [[111], [111, 111], [48], [49, 50], [40], [41], [123], [125], [44], [59], [116, 97, 98, 108, 101], [112, 108, 97, 110], [108, 101, 102, 116], [114, 105, 103, 104, 116], [114, 111, 117, 110, 100], [45], [65], [111, 65], [35], [95], [111, 95, 111], [97, 98, 99, 100, 101, 102, 103, 104, 105, 106, 107, 108, 109], [97, 98, 99, 100, 101, 102, 103, 104, 105, 106, 107, 108], [48, 48], [55, 97, 98, 99, 100, 101, 102, 103, 104, 105, 106, 107, 108, 109], [9], [49, 9], [39], [46], [58], [97], [91], [93], [42], [47], [61], [60], [63], [126], [48, 120], [90], [33], [124], [43], [116, 97, 98, 108, 101, 65], [111, 49], [34], [36], [38], [62], [64], [92], [67], [89], [125, 123], [40, 41]]
theorem odd_ok : oddW.all okW = true := by decide +kernel
/-- what is put in a word's place -/
def ownOf (x o : Cs) : List (List Cs) := [[], [x, x], [o], [o, x]]
theorem ws_spoil {k m at_ : Nat} {ws own : List Cs} {x o : Cs} (h : WS k m ws) (hx : ws[at_]? = some x) (ho : WD o) (hw : own ∈ ownOf x o) : WS (k + 1) (m + 1) (ws.take at_ ++ own ++ ws.drop (at_ + 1)) := by
  obtain ⟨hlt, ex⟩ := List.getElem?_eq_some_iff.mp hx
  have hxm : x ∈ ws := by rw [← ex]; exact List.getElem_mem hlt
  have dx := h.wd x hxm
  have split : ws = ws.take at_ ++ (x :: ws.drop (at_ + 1)) := by
    rw [← ex, List.getElem_cons_drop, List.take_append_drop]
  have own1 : (∀ w ∈ own, WD w) ∧ own.flatten.count 40 ≤ x.count 40 + 1 ∧ own.length ≤ 2 := by
    have b1 := dx.br
    have b2 := ho.br
    unfold ownOf at hw
    simp only [List.mem_cons, List.mem_nil_iff, or_false] at hw
    rcases hw with rfl | rfl | rfl | rfl
    · exact ⟨(by intro _ z; cases z), Nat.zero_le _, Nat.zero_le _⟩
    · refine ⟨fun w hw => ?_, ?_, Nat.le_refl _⟩
      · simp only [List.mem_cons, List.mem_nil_iff, or_false, or_self] at hw
        rw [hw]; exact dx
      · simp only [List.flatten_cons, List.flatten_nil, List.append_nil, List.count_append]
        omega
    · refine ⟨fun w hw => ?_, ?_, (show 1 ≤ 2 from by decide)⟩
      · rw [List.mem_singleton.mp hw]; exact ho
      · simp only [List.flatten_cons, List.flatten_nil, List.append_nil]
        omega
    · refine ⟨fun w hw => ?_, ?_, Nat.le_refl _⟩
      · simp only [List.mem_cons, List.mem_nil_iff, or_false] at hw
        rcases hw with rfl | rfl
        · exact ho
        · exact dx
      · simp only [List.flatten_cons, List.flatten_nil, List.append_nil, List.count_append]
        omega
  obtain ⟨o1, o2, o3⟩ := own1
  refine ⟨fun w hw => ?_, ?_, ?_⟩
  · rcases List.mem_append.mp hw with z | z
    · rcases List.mem_append.mp z with z | z
      · exact h.wd w (List.mem_of_mem_take z)
      · exact o1 w z
    · exact h.wd w (List.mem_of_mem_drop z)
  · have hb := h.br
    rw [split] at hb
    simp only [List.flatten_append, List.flatten_cons, List.count_append] at hb ⊢
    omega
  · have hl := h.len
    rw [split] at hl
    simp only [List.length_append, List.length_cons] at hl ⊢
    omega
end K10
namespace K10
open PySem PySem.Spec PyProof.Rows L2
open SX (S S_len S_inj S_cat)
abbrev sSpoilt : Stmt := tp 45
theorem le100' {n : Nat} (h : n ≤ 100) : n ≤ 1000000 := by omega
theorem cutV_take (xs : List V) (k : Nat) (h : k ≤ xs.length) : cutV xs none (some (k : Int)) = xs.take k := by
  unfold cutV
  rw [HT.sIx_none, HT.sIx_nat, List.drop_zero, Nat.sub_zero, Nat.min_eq_left h]
theorem cutV_drop (xs : List V) (k : Nat) (h : k ≤ xs.length) : cutV xs (some (k : Int)) none = xs.drop k := by
  unfold cutV
  rw [HT.sIx_none, HT.sIx_nat, Nat.min_eq_left h]
  exact List.take_of_length_le (by rw [List.length_drop]; omega)
theorem lstS_take (ws : List Cs) (k : Nat) : (lstS ws).take k = lstS (ws.take k) := by
  unfold lstS
  rw [List.map_take]
theorem lstS_drop (ws : List Cs) (k : Nat) : (lstS ws).drop k = lstS (ws.drop k) := by
  unfold lstS
  rw [List.map_drop]
theorem lstS_append (a b : List Cs) : lstS a ++ lstS b = lstS (a ++ b) := by
  unfold lstS
  rw [List.map_append]
section
variable {P : Program} {w : World} {K : PySem.W.Frag} {mg : Str → Option Value} {base : Heap}
abbrev nSpoilt : List Str := ["_law_source_here", "_law_signs", "_law_odd", "_law_at", "_law_other", "_law_own"]
theorem scSpoilt : FnScope nSpoilt ["_law_source_here", "_law_signs"] (defScope sSpoilt) := ⟨rfl, rfl, rfl, by decide +kernel, rfl, by decide +kernel, by decide +kernel⟩
def spSpoilt : Sp := fun vs H Q _ => ∃ (a c g : Addr) (ws : List Cs) (k m : Nat), vs = [.ref a, .ref g] ∧ Src H a c ∧ H g = some (.lst (lstS ws)) ∧ g ≠ c ∧ ws ≠ [] ∧ WS k m ws ∧ m ≤ 2000 ∧
  ∀ l ws' H', KpS a c H H' → Src H' a c → H l = none → H' l = some (.lst (lstS ws')) → WS (k + 1) (m + 1) ws' → Q (.ref l) H'
theorem ok_spoilt {f fX fO : Addr} {fd fdX fdO : FuncData} (N : Fn K mg "_law_spoilt_signs" sSpoilt f fd ["_law_source_here", "_law_signs"]) (NX : Fn K mg "_law_pick" sPick fX fdX ["_law_source_here", "_law_many"]) (NO : Fn K mg "_law_of" sOf fO fdO ["_law_source_here", "_law_some"])
    (T : GT K mg) (GX : FnOk P w K mg base CX0 1 fX fdX ["_law_source_here", "_law_many"] spPick) (GO : FnOk P w K mg base CX0 2 fO fdO ["_law_source_here", "_law_some"] spOf) : FnOk P w K mg base CX0 3 f fd ["_law_source_here", "_law_signs"] spSpoilt := by
  refine N.F.ok scSpoilt (fun vs H Q E h => ?_) (fun cdv A outer s H vs Q E hr h => ?_)
  · obtain ⟨_, _, _, _, _, _, rfl, _⟩ := h
    rfl
  · obtain ⟨a, c, g, ws, k, m, rfl, hs, hg, hgc, hne, hw, hm, q⟩ := h
    refine ⟨_, pss_cons (ps_set (i := 2) scSpoilt.nd rfl (Or.inl rfl) (pe_lst (pa_cons pe_str (pa_cons pe_str (pa_cons pe_str (pa_cons pe_str (pa_cons pe_str (pa_cons pe_str (pa_cons pe_str (pa_cons pe_str (pa_cons pe_str (pa_cons pe_str (pa_cons pe_str (pa_cons pe_str (pa_cons pe_str (pa_cons pe_str (pa_cons pe_str (pa_cons pe_str (pa_cons pe_str pa_nil)))))))))))))))))))
      (pss_cons (ps_set (i := 2) scSpoilt.nd rfl (Or.inl rfl) (pe_op op_cat (pv 2) (pe_lst (pa_cons pe_str (pa_cons pe_str (pa_cons pe_str (pa_cons pe_str (pa_cons pe_str (pa_cons pe_str (pa_cons pe_str (pa_cons pe_str (pa_cons pe_str (pa_cons pe_str (pa_cons pe_str (pa_cons pe_str pa_nil)))))))))))))))
      (pss_cons (ps_set (i := 2) scSpoilt.nd rfl (Or.inl rfl) (pe_op op_cat (pv 2) (pe_lst (pa_cons pe_str (pa_cons pe_str (pa_cons pe_str (pa_cons pe_str (pa_cons pe_str (pa_cons pe_str (pa_cons pe_str (pa_cons pe_str (pa_cons pe_str (pa_cons pe_str (pa_cons pe_str (pa_cons pe_str (pa_cons pe_str (pa_cons pe_str (pa_cons pe_str (pa_cons pe_str (pa_cons pe_str pa_nil))))))))))))))))))))
      (pss_cons (ps_set (i := 2) scSpoilt.nd rfl (Or.inl rfl) (pe_op op_cat (pv 2) (pe_lst (pa_cons pe_str (pa_cons pe_str (pa_cons pe_str (pa_cons pe_str (pa_cons pe_str (pa_cons pe_str (pa_cons pe_str (pa_cons pe_str (pa_cons pe_str (pa_cons pe_str pa_nil)))))))))))))
      (pss_cons (ps_par (i := 3) (j := 4) rfl scSpoilt.nd rfl rfl (by decide) rfl rfl (pa_cons (pe_call GX (hr.mono (by decide)) (by rfl) NX.g NX.F.kp NX.b .nil pass0 (pa_cons (pv 0) (pa_cons (pe_callB call_len (by rfl) T.len PySem.boot_len (pa_cons (pv 1) pa_nil)) pa_nil)))
          (pa_cons (pe_call GO hr (by rfl) NO.g NO.F.kp NO.b .nil pass0 (pa_cons (pv 0) (pa_cons (pv 2) pa_nil))) pa_nil)) (by rfl))
      (pss_cons (ps_set (i := 5) scSpoilt.nd rfl (Or.inl rfl) (pe_call GO hr (by rfl) NO.g NO.F.kp NO.b .nil pass0 (pa_cons (pv 0) (pa_cons (pe_lst (pa_cons (pe_lst pa_nil) (pa_cons (pe_op op_rep (pe_lst (pa_cons (pe_ix ix_list (pv 1) (pv 3) (fun _ _ => rfl)) pa_nil)) pe_int)
          (pa_cons (pe_lst (pa_cons (pv 4) pa_nil)) (pa_cons (pe_lst (pa_cons (pv 4) (pa_cons (pe_ix ix_list (pv 1) (pv 3) (fun _ _ => rfl)) pa_nil))) pa_nil))))) pa_nil))))
      (pss_one (ps_ret (pe_op op_cat (pe_op op_cat (pe_slice sl_list (pv 1) po_none (po_some (pv 3))) (pv 5)) (pe_slice sl_list (pv 1) (po_some (pe_op op_add (pv 3) pe_int)) po_none)))))))))  , ?_⟩
    have z0 : sizeLine = 16777216 := sizeLine_eq
    refine ⟨le100 (show 17 ≤ 100 from by decide), fun o1 ho1 => ?_⟩
    have sA := same_upd (o := .lst [V.str "o", V.str "oo", V.str "0", V.str "12", V.str "(", V.str ")", V.str "{", V.str "}", V.str ",", V.str ";", V.str "table", V.str "plan", V.str "left", V.str "right", V.str "round", V.str "-", V.str "A"]) ho1
    have hA : upd H o1 (.lst [V.str "o", V.str "oo", V.str "0", V.str "12", V.str "(", V.str ")", V.str "{", V.str "}", V.str ",", V.str ";", V.str "table", V.str "plan", V.str "left", V.str "right", V.str "round", V.str "-", V.str "A"]) o1 = some (.lst [V.str "o", V.str "oo", V.str "0", V.str "12", V.str "(", V.str ")", V.str "{", V.str "}", V.str ",", V.str ";", V.str "table", V.str "plan", V.str "left", V.str "right", V.str "round", V.str "-", V.str "A"]) := upd_same
    generalize upd H o1 (.lst [V.str "o", V.str "oo", V.str "0", V.str "12", V.str "(", V.str ")", V.str "{", V.str "}", V.str ",", V.str ";", V.str "table", V.str "plan", V.str "left", V.str "right", V.str "round", V.str "-", V.str "A"]) = HA at *
    refine ⟨_, rfl, le100 (show 12 ≤ 100 from by decide), fun o2 ho2 => ⟨o1, o2, _, _, rfl, rfl, same_upd ho2 _ _ hA, upd_same, le100 (show 29 ≤ 100 from by decide), fun o3 ho3 => ?_⟩⟩
    have sB := (same_upd (o := .lst [V.str "oA", V.str "#", V.str "_", V.str "o_o", V.str "abcdefghijklm", V.str "abcdefghijkl", V.str "00", V.str "7abcdefghijklm", V.str "\t", V.str "1\t", V.str "'", V.str "."]) ho2).trans (same_upd (o := .lst ([V.str "o", V.str "oo", V.str "0", V.str "12", V.str "(", V.str ")", V.str "{", V.str "}", V.str ",", V.str ";", V.str "table", V.str "plan", V.str "left", V.str "right", V.str "round", V.str "-", V.str "A"] ++ [V.str "oA", V.str "#", V.str "_", V.str "o_o", V.str "abcdefghijklm", V.str "abcdefghijkl", V.str "00", V.str "7abcdefghijklm", V.str "\t", V.str "1\t", V.str "'", V.str "."])) ho3)
    have hB : upd (upd HA o2 (.lst [V.str "oA", V.str "#", V.str "_", V.str "o_o", V.str "abcdefghijklm", V.str "abcdefghijkl", V.str "00", V.str "7abcdefghijklm", V.str "\t", V.str "1\t", V.str "'", V.str "."])) o3 (.lst ([V.str "o", V.str "oo", V.str "0", V.str "12", V.str "(", V.str ")", V.str "{", V.str "}", V.str ",", V.str ";", V.str "table", V.str "plan", V.str "left", V.str "right", V.str "round", V.str "-", V.str "A"] ++ [V.str "oA", V.str "#", V.str "_", V.str "o_o", V.str "abcdefghijklm", V.str "abcdefghijkl", V.str "00", V.str "7abcdefghijklm", V.str "\t", V.str "1\t", V.str "'", V.str "."])) o3 = some (.lst ([V.str "o", V.str "oo", V.str "0", V.str "12", V.str "(", V.str ")", V.str "{", V.str "}", V.str ",", V.str ";", V.str "table", V.str "plan", V.str "left", V.str "right", V.str "round", V.str "-", V.str "A"] ++ [V.str "oA", V.str "#", V.str "_", V.str "o_o", V.str "abcdefghijklm", V.str "abcdefghijkl", V.str "00", V.str "7abcdefghijklm", V.str "\t", V.str "1\t", V.str "'", V.str "."])) := upd_same
    generalize upd (upd HA o2 (.lst [V.str "oA", V.str "#", V.str "_", V.str "o_o", V.str "abcdefghijklm", V.str "abcdefghijkl", V.str "00", V.str "7abcdefghijklm", V.str "\t", V.str "1\t", V.str "'", V.str "."])) o3 (.lst ([V.str "o", V.str "oo", V.str "0", V.str "12", V.str "(", V.str ")", V.str "{", V.str "}", V.str ",", V.str ";", V.str "table", V.str "plan", V.str "left", V.str "right", V.str "round", V.str "-", V.str "A"] ++ [V.str "oA", V.str "#", V.str "_", V.str "o_o", V.str "abcdefghijklm", V.str "abcdefghijkl", V.str "00", V.str "7abcdefghijklm", V.str "\t", V.str "1\t", V.str "'", V.str "."])) = HB at *
    refine ⟨_, rfl, le100 (show 17 ≤ 100 from by decide), fun o4 ho4 => ⟨o3, o4, _, _, rfl, rfl, same_upd ho4 _ _ hB, upd_same, le100 (show 46 ≤ 100 from by decide), fun o5 ho5 => ?_⟩⟩
    have sC := (same_upd (o := .lst [V.str ":", V.str "a", V.str "[", V.str "]", V.str "*", V.str "/", V.str "=", V.str "<", V.str "?", V.str "~", V.str "0x", V.str "Z", V.str "!", V.str "|", V.str "+", V.str "tableA", V.str "o1"]) ho4).trans (same_upd (o := .lst ([V.str "o", V.str "oo", V.str "0", V.str "12", V.str "(", V.str ")", V.str "{", V.str "}", V.str ",", V.str ";", V.str "table", V.str "plan", V.str "left", V.str "right", V.str "round", V.str "-", V.str "A"] ++ [V.str "oA", V.str "#", V.str "_", V.str "o_o", V.str "abcdefghijklm", V.str "abcdefghijkl", V.str "00", V.str "7abcdefghijklm", V.str "\t", V.str "1\t", V.str "'", V.str "."] ++ [V.str ":", V.str "a", V.str "[", V.str "]", V.str "*", V.str "/", V.str "=", V.str "<", V.str "?", V.str "~", V.str "0x", V.str "Z", V.str "!", V.str "|", V.str "+", V.str "tableA", V.str "o1"])) ho5)
    have hC : upd (upd HB o4 (.lst [V.str ":", V.str "a", V.str "[", V.str "]", V.str "*", V.str "/", V.str "=", V.str "<", V.str "?", V.str "~", V.str "0x", V.str "Z", V.str "!", V.str "|", V.str "+", V.str "tableA", V.str "o1"])) o5 (.lst ([V.str "o", V.str "oo", V.str "0", V.str "12", V.str "(", V.str ")", V.str "{", V.str "}", V.str ",", V.str ";", V.str "table", V.str "plan", V.str "left", V.str "right", V.str "round", V.str "-", V.str "A"] ++ [V.str "oA", V.str "#", V.str "_", V.str "o_o", V.str "abcdefghijklm", V.str "abcdefghijkl", V.str "00", V.str "7abcdefghijklm", V.str "\t", V.str "1\t", V.str "'", V.str "."] ++ [V.str ":", V.str "a", V.str "[", V.str "]", V.str "*", V.str "/", V.str "=", V.str "<", V.str "?", V.str "~", V.str "0x", V.str "Z", V.str "!", V.str "|", V.str "+", V.str "tableA", V.str "o1"])) o5 = some (.lst ([V.str "o", V.str "oo", V.str "0", V.str "12", V.str "(", V.str ")", V.str "{", V.str "}", V.str ",", V.str ";", V.str "table", V.str "plan", V.str "left", V.str "right", V.str "round", V.str "-", V.str "A"] ++ [V.str "oA", V.str "#", V.str "_", V.str "o_o", V.str "abcdefghijklm", V.str "abcdefghijkl", V.str "00", V.str "7abcdefghijklm", V.str "\t", V.str "1\t", V.str "'", V.str "."] ++ [V.str ":", V.str "a", V.str "[", V.str "]", V.str "*", V.str "/", V.str "=", V.str "<", V.str "?", V.str "~", V.str "0x", V.str "Z", V.str "!", V.str "|", V.str "+", V.str "tableA", V.str "o1"])) := upd_same
    generalize upd (upd HB o4 (.lst [V.str ":", V.str "a", V.str "[", V.str "]", V.str "*", V.str "/", V.str "=", V.str "<", V.str "?", V.str "~", V.str "0x", V.str "Z", V.str "!", V.str "|", V.str "+", V.str "tableA", V.str "o1"])) o5 (.lst ([V.str "o", V.str "oo", V.str "0", V.str "12", V.str "(", V.str ")", V.str "{", V.str "}", V.str ",", V.str ";", V.str "table", V.str "plan", V.str "left", V.str "right", V.str "round", V.str "-", V.str "A"] ++ [V.str "oA", V.str "#", V.str "_", V.str "o_o", V.str "abcdefghijklm", V.str "abcdefghijkl", V.str "00", V.str "7abcdefghijklm", V.str "\t", V.str "1\t", V.str "'", V.str "."] ++ [V.str ":", V.str "a", V.str "[", V.str "]", V.str "*", V.str "/", V.str "=", V.str "<", V.str "?", V.str "~", V.str "0x", V.str "Z", V.str "!", V.str "|", V.str "+", V.str "tableA", V.str "o1"])) = HC at *
    refine ⟨_, rfl, le100 (show 10 ≤ 100 from by decide), fun o6 ho6 => ⟨o5, o6, _, _, rfl, rfl, same_upd ho6 _ _ hC, upd_same, le100 (show 56 ≤ 100 from by decide), fun o7 ho7 => ?_⟩⟩
    have sD := (same_upd (o := .lst [V.str "\"", V.str "$", V.str "&", V.str ">", V.str "@", V.str "\\", V.str "C", V.str "Y", V.str "}{", V.str "()"]) ho6).trans (same_upd (o := .lst ([V.str "o", V.str "oo", V.str "0", V.str "12", V.str "(", V.str ")", V.str "{", V.str "}", V.str ",", V.str ";", V.str "table", V.str "plan", V.str "left", V.str "right", V.str "round", V.str "-", V.str "A"] ++ [V.str "oA", V.str "#", V.str "_", V.str "o_o", V.str "abcdefghijklm", V.str "abcdefghijkl", V.str "00", V.str "7abcdefghijklm", V.str "\t", V.str "1\t", V.str "'", V.str "."] ++ [V.str ":", V.str "a", V.str "[", V.str "]", V.str "*", V.str "/", V.str "=", V.str "<", V.str "?", V.str "~", V.str "0x", V.str "Z", V.str "!", V.str "|", V.str "+", V.str "tableA", V.str "o1"] ++ [V.str "\"", V.str "$", V.str "&", V.str ">", V.str "@", V.str "\\", V.str "C", V.str "Y", V.str "}{", V.str "()"])) ho7)
    have eodd : [V.str "o", V.str "oo", V.str "0", V.str "12", V.str "(", V.str ")", V.str "{", V.str "}", V.str ",", V.str ";", V.str "table", V.str "plan", V.str "left", V.str "right", V.str "round", V.str "-", V.str "A"] ++ [V.str "oA", V.str "#", V.str "_", V.str "o_o", V.str "abcdefghijklm", V.str "abcdefghijkl", V.str "00", V.str "7abcdefghijklm", V.str "\t", V.str "1\t", V.str "'", V.str "."] ++ [V.str ":", V.str "a", V.str "[", V.str "]", V.str "*", V.str "/", V.str "=", V.str "<", V.str "?", V.str "~", V.str "0x", V.str "Z", V.str "!", V.str "|", V.str "+", V.str "tableA", V.str "o1"] ++ [V.str "\"", V.str "$", V.str "&", V.str ">", V.str "@", V.str "\\", V.str "C", V.str "Y", V.str "}{", V.str "()"] = lstS oddW := by decide +kernel
    rw [eodd] at sD
    rw [eodd]
    have hD : upd (upd HC o6 (.lst [V.str "\"", V.str "$", V.str "&", V.str ">", V.str "@", V.str "\\", V.str "C", V.str "Y", V.str "}{", V.str "()"])) o7 (.lst (lstS oddW)) o7 = some (.lst (lstS oddW)) := upd_same
    generalize upd (upd HC o6 (.lst [V.str "\"", V.str "$", V.str "&", V.str ">", V.str "@", V.str "\\", V.str "C", V.str "Y", V.str "}{", V.str "()"])) o7 (.lst (lstS oddW)) = HD at *
    have s0 := ((sA.trans sB).trans sC).trans sD
    have ho7H : H o7 = none := (((sA.trans sB).trans sC).trans (same_upd (o := .lst [V.str "\"", V.str "$", V.str "&", V.str ">", V.str "@", V.str "\\", V.str "C", V.str "Y", V.str "}{", V.str "()"]) ho6)).free ho7
    clear sA hA sB hB sC hC sD eodd ho1 ho2 ho3 ho4 ho5 ho6 ho7
    have hsD := hs.same s0
    have hgD := s0 _ _ hg
    have hga := hs.ne hg
    have free_c : ∀ {p : Addr}, H p = none → p ≠ c := fun {p} hp z => by
      obtain ⟨_, _, cells, hc⟩ := hs
      rw [z, hc] at hp
      cases hp
    have wl : 1 ≤ ws.length := List.length_pos_iff.mpr hne
    have wlen := hw.len
    refine ⟨_, rfl, _, rfl, .ref g, _, rfl, .inl ⟨_, SqL.of hgD, rfl⟩, a, c, _, rfl, hsD, by rw [lstS_len]; omega, by rw [lstS_len]; omega, fun r H8 hr8 hs8 k8 => ?_⟩
    rw [lstS_len] at hr8
    have hrl : r < ws.length := by omega
    have hD8 := k8.k _ _ hD (hsD.ne hD) (free_c ho7H)
    have hg8 := k8.k _ _ hgD hga hgc
    refine ⟨_, rfl, _, rfl, a, c, o7, lstS oddW, rfl, hs8, hD8, free_c ho7H, by decide, le100' (show 56 ≤ 100 from by decide), fun x H9 hx hs9 k9 => ⟨_, _, rfl, ?_⟩⟩
    obtain ⟨o, ho, rfl⟩ := List.mem_map.mp hx
    have wo : WD o := wd_of (List.all_eq_true.mp odd_ok o ho)
    have hg9 := k9.k _ _ hg8 hga hgc
    obtain ⟨w0, hw0⟩ : ∃ w0, ws[r]? = some w0 := ⟨_, List.getElem?_eq_getElem hrl⟩
    have hw0' : (lstS ws)[r]? = some (.str (S w0)) := by unfold lstS; rw [List.getElem?_map, hw0]; rfl
    have k09 := ((KpS.of (a := a) (c := c) s0).trans k8).trans k9
    have free9 : ∀ {p : Addr}, H9 p = none → H p = none := fun {p} hp => by
      cases e : H p with
      | none => rfl
      | some ob =>
        exfalso
        by_cases e1 : p = a
        · obtain ⟨_, ⟨_, _, _, ea⟩, _⟩ := hs9
          rw [e1, ea] at hp
          cases hp
        · by_cases e2 : p = c
          · obtain ⟨_, _, _, ec⟩ := hs9
            rw [e2, ec] at hp
            cases hp
          · rw [k09.k _ _ e e1 e2] at hp
            cases hp
    refine ⟨_, rfl, le100 (show 0 ≤ 100 from by decide), fun e1 he1 => ?_⟩
    have s1 := same_upd (o := .lst []) he1
    refine ⟨_, rfl, _, rfl, g, _, r, _, rfl, rfl, SqL.of (s1 _ _ hg9), atI_nat hw0', le100 (show 1 ≤ 100 from by decide), fun e2 he2 => ⟨e2, 2, _, rfl, rfl, upd_same, by decide, by decide, le100 (show 2 ≤ 100 from by decide), fun e3 he3 => ?_⟩⟩
    have s2 := s1.trans (same_upd (o := .lst [.str (S w0)]) he2)
    have s3 := s2.trans (same_upd (o := .lst (List.replicate (2 : Int).toNat [V.str (S w0)]).flatten) he3)
    refine ⟨_, rfl, le100 (show 1 ≤ 100 from by decide), fun e4 he4 => ?_⟩
    have s4 := s3.trans (same_upd (o := .lst [.str (S o)]) he4)
    refine ⟨_, rfl, _, rfl, _, rfl, g, _, r, _, rfl, rfl, SqL.of (s4 _ _ hg9), atI_nat hw0', le100 (show 2 ≤ 100 from by decide), fun e5 he5 => ?_⟩
    have s5 := s4.trans (same_upd (o := .lst [.str (S o), .str (S w0)]) he5)
    refine ⟨le100 (show 4 ≤ 100 from by decide), fun e6 he6 => ?_⟩
    have t45 := same_upd (o := .lst [.str (S o), .str (S w0)]) he5
    have t34 := same_upd (o := .lst [.str (S o)]) he4
    have t23 := same_upd (o := .lst (List.replicate (2 : Int).toNat [V.str (S w0)]).flatten) he3
    have t12 := same_upd (o := .lst [.str (S w0)]) he2
    have t56 := same_upd (o := .lst [.ref e1, .ref e3, .ref e4, .ref e5]) he6
    have c1 := t56 _ _ (t45 _ _ (t34 _ _ (t23 _ _ (t12 _ _ (upd_same (H := H9) (a := e1) (o := .lst []))))))
    have c3 := t56 _ _ (t45 _ _ (t34 _ _ (upd_same (a := e3) (o := .lst (List.replicate (2 : Int).toNat [V.str (S w0)]).flatten))))
    have c4 := t56 _ _ (t45 _ _ (upd_same (a := e4) (o := .lst [.str (S o)])))
    have c5 := t56 _ _ (upd_same (a := e5) (o := .lst [.str (S o), .str (S w0)]))
    have n1 := free9 he1
    have n3 := free9 (s2.free he3)
    have n4 := free9 (s3.free he4)
    have n5 := free9 (s4.free he5)
    have n6 := free9 (s5.free he6)
    have s6 := s5.trans t56
    have hs10 := hs9.same s6
    have hg10 := s6 _ _ hg9
    refine ⟨a, c, e6, _, rfl, hs10, upd_same, free_c n6, (show 1 ≤ 4 from by decide), le100' (show 4 ≤ 100 from by decide), fun y H11 hy hs11 k11 => ?_⟩
    obtain ⟨own, hown, pe, rfl, hpe⟩ : ∃ own, own ∈ ownOf w0 o ∧ ∃ pe, y = .ref pe ∧ H11 pe = some (.lst (lstS own)) := by
      simp only [List.mem_cons, List.mem_nil_iff, or_false] at hy
      rcases hy with rfl | rfl | rfl | rfl
      · exact ⟨[], by simp [ownOf], e1, rfl, k11.k _ _ c1 (hs10.ne c1) (free_c n1)⟩
      · exact ⟨[w0, w0], by simp [ownOf], e3, rfl, k11.k _ _ c3 (hs10.ne c3) (free_c n3)⟩
      · exact ⟨[o], by simp [ownOf], e4, rfl, k11.k _ _ c4 (hs10.ne c4) (free_c n4)⟩
      · exact ⟨[o, w0], by simp [ownOf], e5, rfl, k11.k _ _ c5 (hs10.ne c5) (free_c n5)⟩
    have hg11 := k11.k _ _ hg10 hga hgc
    have hcons := ws_spoil hw hw0 wo hown
    have hlen := hcons.len
    have ownLen : own.length ≤ 2 := by
      unfold ownOf at hown
      simp only [List.mem_cons, List.mem_nil_iff, or_false] at hown
      rcases hown with rfl | rfl | rfl | rfl <;> simp
    have k0 := (k09.trans (KpS.of s6)).trans k11
    refine ⟨_, rfl, _, rfl, _, rfl, g, _, rfl, SqL.of hg11, fun t1 ht1 => ?_⟩
    rw [cutV_take _ _ (by rw [lstS_len]; omega), lstS_take]
    have u1 := same_upd (o := .lst (lstS (ws.take r))) ht1
    have tl : (ws.take r).length ≤ ws.length := by rw [List.length_take]; omega
    refine ⟨_, rfl, t1, pe, _, _, rfl, rfl, upd_same, u1 _ _ hpe, by rw [lstS_len, lstS_len]; omega, fun t2 ht2 => ?_⟩
    rw [lstS_append]
    have u2 := u1.trans (same_upd (o := .lst (lstS (ws.take r ++ own))) ht2)
    refine ⟨_, rfl, _, rfl, _, _, rfl, rfl, _, rfl, g, _, rfl, SqL.of (u2 _ _ hg11), fun t3 ht3 => ?_⟩
    have ecast : ((r : Int) + 1) = ((r + 1 : Nat) : Int) := by omega
    rw [ecast, cutV_drop _ _ (by rw [lstS_len]; omega), lstS_drop]
    have u3 := u2.trans (same_upd (o := .lst (lstS (ws.drop (r + 1)))) ht3)
    have h2 := same_upd (o := .lst (lstS (ws.drop (r + 1)))) ht3 _ _ (upd_same (a := t2) (o := .lst (lstS (ws.take r ++ own))))
    have dl : (ws.drop (r + 1)).length ≤ ws.length := by rw [List.length_drop]; omega
    refine ⟨t2, t3, _, _, rfl, rfl, h2, upd_same, by rw [lstS_len, lstS_len, List.length_append]; omega, fun t4 ht4 => ?_⟩
    rw [lstS_append]
    have u4 := u3.trans (same_upd (o := .lst (lstS (ws.take r ++ own ++ ws.drop (r + 1)))) ht4)
    have ht4H : H t4 = none := by
      cases e : H t4 with
      | none => rfl
      | some ob =>
        exfalso
        by_cases e1 : t4 = a
        · obtain ⟨_, ⟨_, _, _, ea⟩, _⟩ := hs11
          rw [e1, u3 _ _ ea] at ht4
          cases ht4
        · by_cases e2 : t4 = c
          · obtain ⟨_, _, _, ec⟩ := hs11
            rw [e2, u3 _ _ ec] at ht4
            cases ht4
          · rw [u3 _ _ (k0.k _ _ e e1 e2)] at ht4
            cases ht4
    exact q t4 _ _ (k0.trans (KpS.of u4)) (hs11.same u4) ht4H upd_same hcons
end
end K10
set_option maxHeartbeats 4000000
namespace K10
open PySem PySem.Spec PyProof.Rows L2
open SX (S S_len S_inj S_cat)
abbrev sSpaced : Stmt := tp 42
def gapsA : List Cs := [[32], [10], [32, 10, 32, 32]]
def gapsB : List Cs := [[32], [10], [32, 10, 32, 32], [], [], []]
def okGap (g : Cs) : Bool := decide (g.length ≤ 4) && decide (g.count 40 = 0)
theorem gapsA_ok : gapsA.all okGap = true := by decide +kernel
theorem gapsB_ok : gapsB.all okGap = true := by decide +kernel
def gaps0 : List Cs := [[], [32], [10, 10]]
theorem gaps0_ok : gaps0.all okGap = true := by decide +kernel
def gaps9 : List Cs := [[], [32], [10]]
theorem gaps9_ok : gaps9.all okGap = true := by decide +kernel
theorem gap_of {gs : List Cs} (h : gs.all okGap = true) {g : Cs} (hg : g ∈ gs) : g.length ≤ 4 ∧ g.count 40 = 0 := by
  have := List.all_eq_true.mp h g hg
  unfold okGap at this
  rw [Bool.and_eq_true, decide_eq_true_eq, decide_eq_true_eq] at this
  exact this
section
variable {P : Program} {w : World} {K : PySem.W.Frag} {mg : Str → Option Value} {base : Heap}
abbrev nSpaced : List Str := ["_law_source_here", "_law_signs", "_law_text", "_law_last", "_law_one", "_law_gaps"]
theorem scSpaced : FnScope nSpaced ["_law_source_here", "_law_signs"] (defScope sSpaced) := ⟨rfl, rfl, rfl, by decide +kernel, rfl, by decide +kernel, by decide +kernel⟩
def spSpaced : Sp := fun vs H Q _ => ∃ (a c g : Addr) (ws : List Cs) (k m : Nat), vs = [.ref a, .ref g] ∧ Src H a c ∧ H g = some (.lst (lstS ws)) ∧ g ≠ c ∧ WS k m ws ∧ m ≤ 2000 ∧
  ∀ cs H', KpS a c H H' → Src H' a c → cs.length ≤ 100000 → cs.count 40 ≤ k → Q (.str (S cs)) H'
/-- a source is kept off -/
theorem Src.free_c {H : Hp} {a c p : Addr} (hs : Src H a c) (hp : H p = none) : p ≠ c := fun z => by
  obtain ⟨_, _, cells, hc⟩ := hs
  rw [z, hc] at hp
  cases hp
theorem ok_spaced {f fO : Addr} {fd fdO : FuncData} (N : Fn K mg "_law_spaced" sSpaced f fd ["_law_source_here", "_law_signs"]) (NO : Fn K mg "_law_of" sOf fO fdO ["_law_source_here", "_law_some"])
    (T : GT K mg) (GO : FnOk P w K mg base CX0 2 fO fdO ["_law_source_here", "_law_some"] spOf) : FnOk P w K mg base CX0 3 f fd ["_law_source_here", "_law_signs"] spSpaced := by
  refine N.F.ok scSpaced (fun vs H Q E h => ?_) (fun cdv A outer s H vs Q E hr h => ?_)
  · obtain ⟨_, _, _, _, _, _, rfl, _⟩ := h
    rfl
  · obtain ⟨a, c, g, ws, k, m, rfl, hs, hg, hgc, hw, hm, q⟩ := h
    refine ⟨_, pss_cons (ps_par (i := 2) (j := 3) rfl scSpaced.nd rfl rfl (by decide) rfl rfl (pa_cons (pe_call GO hr (by rfl) NO.g NO.F.kp NO.b .nil pass0 (pa_cons (pv 0) (pa_cons (pe_lst (pa_cons pe_str (pa_cons pe_str (pa_cons pe_str pa_nil)))) pa_nil))) (pa_cons pe_str pa_nil)) (by rfl))
      (pss_cons (ps_for PassesOwn.never rfl (pi_list (pv 1)) (pg_name (i := 4) scSpaced.nd rfl (Or.inl rfl))
        (pss_cons (ps_set (i := 5) scSpaced.nd rfl (Or.inl rfl) (pe_lst (pa_cons pe_str (pa_cons pe_str (pa_cons pe_str pa_nil)))))
        (pss_cons (ps_if (PW.pt (pw_or (pt_not (pt_val (pe_bm0 PySem.F.plainAttrs_str PySem.F.slot_str_isalnum PySem.F.type_str_isalnum mt_isalnum (pe_op op_add_str (pv 3) (pv 4)))))
            (pw_or (pt_cmpR op_eq (pv 3) pe_str (nomark _)) (pw_or1 (PW.pt (pw_and (pt_val (pe_bm0 PySem.F.plainAttrs_str PySem.F.slot_str_isdigit PySem.F.type_str_isdigit mt_isdigit (pv 3)))
              (pw_and1 (pt_not (pt_val (pe_bm0 PySem.F.plainAttrs_str PySem.F.slot_str_isdigit PySem.F.type_str_isdigit mt_isdigit (pe_item_str (pv 4) pe_int (fun _ _ => rfl))))))))))))
          (pss_one (ps_set (i := 5) scSpaced.nd rfl (Or.inl rfl) (pe_op op_cat (pv 5) (pe_lst (pa_cons pe_str (pa_cons pe_str (pa_cons pe_str pa_nil))))))) pss_nil)
        (pss_one (ps_par (i := 2) (j := 3) rfl scSpaced.nd rfl rfl (by decide) rfl rfl (pa_cons (pe_op op_add_str (pe_op op_add_str (pv 2) (pe_call GO hr (by rfl) NO.g NO.F.kp NO.b .nil pass0 (pa_cons (pv 0) (pa_cons (pv 5) pa_nil)))) (pv 4)) (pa_cons (pv 4) pa_nil)) (by rfl))))))
      (pss_one (ps_ret (pe_op op_add_str (pv 2) (pe_call GO hr (by rfl) NO.g NO.F.kp NO.b .nil pass0 (pa_cons (pv 0) (pa_cons (pe_lst (pa_cons pe_str (pa_cons pe_str (pa_cons pe_str pa_nil)))) pa_nil))))))), ?_⟩
    have z0 : sizeLine = 16777216 := sizeLine_eq
    have hga := hs.ne hg
    have wlen := hw.len
    refine ⟨_, rfl, le100 (show 3 ≤ 100 from by decide), fun p hp => ?_⟩
    have e0 : [V.str "", .str " ", .str "\n\n"] = lstS gaps0 := by decide +kernel
    rw [e0]
    have s1 := same_upd (o := .lst (lstS gaps0)) hp
    refine ⟨a, c, p, _, rfl, hs.same s1, upd_same, hs.free_c hp, (show 1 ≤ 3 from by decide), le100' (show 3 ≤ 100 from by decide), fun x H2 hx hs2 k2 => ⟨_, _, rfl, ?_⟩⟩
    obtain ⟨t0, ht0, rfl⟩ := List.mem_map.mp hx
    obtain ⟨tl0, tc0⟩ := gap_of gaps0_ok ht0
    have k02 := (KpS.of (a := a) (c := c) s1).trans k2
    refine ⟨_, rfl, g, rfl, ⟨_, SqL.of (k02.k _ _ hg hga hgc)⟩, for_it walk_list (fun i σ H' => KpS a c H H' ∧ Src H' a c ∧ ∃ (cs lw : Cs) (r4 r5 : Option V), σ = [some (.ref a), some (.ref g), some (.str (S cs)), some (.str (S lw)), r4, r5] ∧ cs.length ≤ 4 + 18 * i ∧ cs.count 40 ≤ (ws.take i).flatten.count 40 ∧ lw.length ≤ 14)
      ⟨k02, hs2, t0, [40], none, none, by rw [← s_op]; rfl, by omega, by rw [tc0]; exact Nat.zero_le _, (show 1 ≤ 14 from by decide)⟩ (fun _ _ _ _ z => SqL.of (z.1.k _ _ hg hga hgc)) ?_ ?_⟩
    · rintro i x σ H3 H4 hi ⟨k3, hs3, cs, lw, r4, r5, rfl, b1, b2, b3⟩ ⟨rfl, hx⟩
      rw [lstS_len] at hi
      obtain ⟨w1, hw1, rfl⟩ : ∃ w1, ws[i]? = some w1 ∧ V.str (S w1) = x := by
        unfold lstS at hx
        rw [List.getElem?_map] at hx
        cases e : ws[i]? with
        | none => rw [e] at hx; cases hx
        | some w1 => rw [e] at hx; exact ⟨w1, rfl, Option.some.inj hx⟩
      have wd := hw.wd w1 (List.mem_of_getElem? hw1)
      obtain ⟨c1, r1, ew⟩ : ∃ c1 r1, w1 = c1 :: r1 := by
        cases w1 with
        | nil => exact absurd wd.pos (by simp)
        | cons c1 r1 => exact ⟨c1, r1, rfl⟩
      have wl := wd.len
      refine ⟨le100 (show 3 ≤ 100 from by decide), fun p5 hp5 => ?_⟩
      have eA : [V.str " ", .str "\n", .str " \n  "] = lstS gapsA := by decide +kernel
      rw [eA]
      have s5 := same_upd (o := .lst (lstS gapsA)) hp5
      have h5 : upd H4 p5 (.lst (lstS gapsA)) p5 = some (.lst (lstS gapsA)) := upd_same
      have hs5 := hs3.same s5
      have k5 := k3.trans (KpS.of s5)
      have n5 := hs3.free_c hp5
      generalize upd H4 p5 (.lst (lstS gapsA)) = H5 at *
      refine ⟨_, rfl, _, rfl, _, _, rfl, rfl, by rw [S_len, S_len]; omega, rfl, _, rfl, rfl, trivial, _, rfl, ?_⟩
      refine ite_both (fun _ => if_true_of rfl ?t1) (fun _ => ?_)
      case t1 =>
        have eB : [V.str " ", .str "\n", .str " \n  "] ++ [V.str "", .str "", .str ""] = lstS gapsB := by decide +kernel
        have eA' : lstS gapsA ++ [V.str "", .str "", .str ""] = lstS gapsB := by rw [← eA]; exact eB
        refine ⟨_, rfl, le100 (show 3 ≤ 100 from by decide), fun p6 hp6 => ⟨p5, p6, _, _, rfl, rfl, same_upd hp6 _ _ h5, upd_same, le100 (show 6 ≤ 100 from by decide), fun p7 hp7 => ?_⟩⟩
        rw [eA']
        have s7 := (same_upd (o := .lst [V.str "", .str "", .str ""]) hp6).trans (same_upd (o := .lst (lstS gapsB)) hp7)
        have n7 : p7 ≠ c := (hs5.same (same_upd (o := .lst [V.str "", .str "", .str ""]) hp6)).free_c hp7
        have k7 := k5.trans (KpS.of s7)
        refine ⟨_, rfl, _, rfl, _, rfl, a, c, p7, lstS gapsB, rfl, (hs5.same s7), upd_same, n7, (show 1 ≤ 6 from by decide), le100' (show 6 ≤ 100 from by decide), fun y H8 hy hs8 k8 => ?_⟩
        obtain ⟨gp, hgp, rfl⟩ := List.mem_map.mp hy
        obtain ⟨gl, gc⟩ := gap_of gapsB_ok hgp
        refine ⟨S cs, S gp, rfl, rfl, by rw [S_len, S_len]; omega, _, rfl, _, _, rfl, rfl, by rw [S_cat, S_len, S_len, List.length_append]; omega, _, rfl, _, _, rfl, k7.trans k8, hs8, cs ++ gp ++ w1, w1, _, _, by rw [S_cat, S_cat]; rfl, ?_, ?_, wl⟩
        · rw [List.length_append, List.length_append]
          omega
        · rw [List.count_append, List.count_append, gc, List.take_add_one, hw1, List.flatten_append, List.count_append]
          show cs.count 40 + 0 + w1.count 40 ≤ _ + ([w1] : List Cs).flatten.count 40
          rw [List.flatten_cons, List.flatten_nil, List.append_nil]
          omega
      refine ⟨_, rfl, rfl, _, rfl, ite_both (fun _ => if_true_of rfl ?t2) (fun _ => ?_)⟩
      case t2 =>
        have eB : [V.str " ", .str "\n", .str " \n  "] ++ [V.str "", .str "", .str ""] = lstS gapsB := by decide +kernel
        have eA' : lstS gapsA ++ [V.str "", .str "", .str ""] = lstS gapsB := by rw [← eA]; exact eB
        refine ⟨_, rfl, le100 (show 3 ≤ 100 from by decide), fun p6 hp6 => ⟨p5, p6, _, _, rfl, rfl, same_upd hp6 _ _ h5, upd_same, le100 (show 6 ≤ 100 from by decide), fun p7 hp7 => ?_⟩⟩
        rw [eA']
        have s7 := (same_upd (o := .lst [V.str "", .str "", .str ""]) hp6).trans (same_upd (o := .lst (lstS gapsB)) hp7)
        have n7 : p7 ≠ c := (hs5.same (same_upd (o := .lst [V.str "", .str "", .str ""]) hp6)).free_c hp7
        have k7 := k5.trans (KpS.of s7)
        refine ⟨_, rfl, _, rfl, _, rfl, a, c, p7, lstS gapsB, rfl, (hs5.same s7), upd_same, n7, (show 1 ≤ 6 from by decide), le100' (show 6 ≤ 100 from by decide), fun y H8 hy hs8 k8 => ?_⟩
        obtain ⟨gp, hgp, rfl⟩ := List.mem_map.mp hy
        obtain ⟨gl, gc⟩ := gap_of gapsB_ok hgp
        refine ⟨S cs, S gp, rfl, rfl, by rw [S_len, S_len]; omega, _, rfl, _, _, rfl, rfl, by rw [S_cat, S_len, S_len, List.length_append]; omega, _, rfl, _, _, rfl, k7.trans k8, hs8, cs ++ gp ++ w1, w1, _, _, by rw [S_cat, S_cat]; rfl, ?_, ?_, wl⟩
        · rw [List.length_append, List.length_append]
          omega
        · rw [List.count_append, List.count_append, gc, List.take_add_one, hw1, List.flatten_append, List.count_append]
          show cs.count 40 + 0 + w1.count 40 ≤ _ + ([w1] : List Cs).flatten.count 40
          rw [List.flatten_cons, List.flatten_nil, List.append_nil]
          omega
      refine ⟨_, rfl, rfl, _, rfl, rfl, trivial, _, rfl, ite_both (fun _ => ?_) (fun _ => if_false_of rfl ?f1)⟩
      case f1 =>
        refine ⟨_, rfl, _, rfl, _, rfl, a, c, p5, lstS gapsA, rfl, hs5, h5, n5, (show 1 ≤ 3 from by decide), le100' (show 3 ≤ 100 from by decide), fun y H8 hy hs8 k8 => ?_⟩
        obtain ⟨gp, hgp, rfl⟩ := List.mem_map.mp hy
        obtain ⟨gl, gc⟩ := gap_of gapsA_ok hgp
        refine ⟨S cs, S gp, rfl, rfl, by rw [S_len, S_len]; omega, _, rfl, _, _, rfl, rfl, by rw [S_cat, S_len, S_len, List.length_append]; omega, _, rfl, _, _, rfl, k5.trans k8, hs8, cs ++ gp ++ w1, w1, _, _, by rw [S_cat, S_cat]; rfl, ?_, ?_, wl⟩
        · rw [List.length_append, List.length_append]
          omega
        · rw [List.count_append, List.count_append, gc, List.take_add_one, hw1, List.flatten_append, List.count_append]
          show cs.count 40 + 0 + w1.count 40 ≤ _ + ([w1] : List Cs).flatten.count 40
          rw [List.flatten_cons, List.flatten_nil, List.append_nil]
          omega
      have hc0 : (S w1).cps[0]? = some c1 := S_at (by rw [ew]; rfl)
      refine ⟨_, rfl, S w1, 0, c1, rfl, rfl, by decide, by decide, (by rw [S_len]; have := wd.pos; omega), hc0, rfl, _, rfl, rfl, trivial, _, rfl, ite_both (fun _ => ?t3) (fun _ => ?f2)⟩
      case t3 =>
        have eB : [V.str " ", .str "\n", .str " \n  "] ++ [V.str "", .str "", .str ""] = lstS gapsB := by decide +kernel
        have eA' : lstS gapsA ++ [V.str "", .str "", .str ""] = lstS gapsB := by rw [← eA]; exact eB
        refine ⟨_, rfl, le100 (show 3 ≤ 100 from by decide), fun p6 hp6 => ⟨p5, p6, _, _, rfl, rfl, same_upd hp6 _ _ h5, upd_same, le100 (show 6 ≤ 100 from by decide), fun p7 hp7 => ?_⟩⟩
        rw [eA']
        have s7 := (same_upd (o := .lst [V.str "", .str "", .str ""]) hp6).trans (same_upd (o := .lst (lstS gapsB)) hp7)
        have n7 : p7 ≠ c := (hs5.same (same_upd (o := .lst [V.str "", .str "", .str ""]) hp6)).free_c hp7
        have k7 := k5.trans (KpS.of s7)
        refine ⟨_, rfl, _, rfl, _, rfl, a, c, p7, lstS gapsB, rfl, (hs5.same s7), upd_same, n7, (show 1 ≤ 6 from by decide), le100' (show 6 ≤ 100 from by decide), fun y H8 hy hs8 k8 => ?_⟩
        obtain ⟨gp, hgp, rfl⟩ := List.mem_map.mp hy
        obtain ⟨gl, gc⟩ := gap_of gapsB_ok hgp
        refine ⟨S cs, S gp, rfl, rfl, by rw [S_len, S_len]; omega, _, rfl, _, _, rfl, rfl, by rw [S_cat, S_len, S_len, List.length_append]; omega, _, rfl, _, _, rfl, k7.trans k8, hs8, cs ++ gp ++ w1, w1, _, _, by rw [S_cat, S_cat]; rfl, ?_, ?_, wl⟩
        · rw [List.length_append, List.length_append]
          omega
        · rw [List.count_append, List.count_append, gc, List.take_add_one, hw1, List.flatten_append, List.count_append]
          show cs.count 40 + 0 + w1.count 40 ≤ _ + ([w1] : List Cs).flatten.count 40
          rw [List.flatten_cons, List.flatten_nil, List.append_nil]
          omega
      case f2 =>
        refine ⟨_, rfl, _, rfl, _, rfl, a, c, p5, lstS gapsA, rfl, hs5, h5, n5, (show 1 ≤ 3 from by decide), le100' (show 3 ≤ 100 from by decide), fun y H8 hy hs8 k8 => ?_⟩
        obtain ⟨gp, hgp, rfl⟩ := List.mem_map.mp hy
        obtain ⟨gl, gc⟩ := gap_of gapsA_ok hgp
        refine ⟨S cs, S gp, rfl, rfl, by rw [S_len, S_len]; omega, _, rfl, _, _, rfl, rfl, by rw [S_cat, S_len, S_len, List.length_append]; omega, _, rfl, _, _, rfl, k5.trans k8, hs8, cs ++ gp ++ w1, w1, _, _, by rw [S_cat, S_cat]; rfl, ?_, ?_, wl⟩
        · rw [List.length_append, List.length_append]
          omega
        · rw [List.count_append, List.count_append, gc, List.take_add_one, hw1, List.flatten_append, List.count_append]
          show cs.count 40 + 0 + w1.count 40 ≤ _ + ([w1] : List Cs).flatten.count 40
          rw [List.flatten_cons, List.flatten_nil, List.append_nil]
          omega
    · rintro σ H3 ⟨k3, hs3, cs, lw, r4, r5, rfl, b1, b2, b3⟩
      rw [List.take_of_length_le (by rw [lstS_len]; exact Nat.le_refl _)] at b2
      rw [lstS_len] at b1
      refine ⟨_, rfl, _, rfl, le100 (show 3 ≤ 100 from by decide), fun p9 hp9 => ?_⟩
      have e9 : [V.str "", .str " ", .str "\n"] = lstS gaps9 := by decide +kernel
      rw [e9]
      have s9 := same_upd (o := .lst (lstS gaps9)) hp9
      refine ⟨a, c, p9, _, rfl, hs3.same s9, upd_same, hs3.free_c hp9, (show 1 ≤ 3 from by decide), le100' (show 3 ≤ 100 from by decide), fun y H8 hy hs8 k8 => ?_⟩
      obtain ⟨gp, hgp, rfl⟩ := List.mem_map.mp hy
      obtain ⟨gl, gc⟩ := gap_of gaps9_ok hgp
      refine ⟨S cs, S gp, rfl, rfl, by rw [S_len, S_len]; omega, ?_⟩
      have hb := hw.br
      rw [S_cat]
      exact q (cs ++ gp) _ ((k3.trans (KpS.of s9)).trans k8) hs8 (by rw [List.length_append]; omega) (by rw [List.count_append, gc]; omega)
end
end K10
set_option maxHeartbeats 4000000
namespace K10
def Is (cs : Cs) (L : Lx) : Prop := L.s = [40] → cs[L.p]? = some 40
theorem is_lex (cs : Cs) (p0 : Nat) : Is cs (lexAt cs p0) := by
  cases h : cs[runEnd cs p0 blanks]? with
  | none => rw [lexAt_fin h]; intro z; cases z
  | some c =>
    by_cases h1 : c ∈ signs
    · rw [lexAt_sgn h h1]
      intro z
      have z : [c] = [40] := z
      cases z
      exact h
    · by_cases h2 : c ∈ figs
      · rw [lexAt_num h h1 h2]
        intro z
        obtain ⟨q, q1, _, e⟩ := numAt_le h h2
        obtain ⟨r, e2⟩ := cut_head h q1
        have z : numAt cs (runEnd cs p0 blanks) c = [40] := z
        rw [e, e2] at z
        cases z
        rw [mem_figs] at h2
        omega
      · cases h3 : isWord (runAt cs (runEnd cs p0 blanks)) with
        | true =>
          rw [lexAt_wrd h h1 h2 h3]
          intro z
          have z : runAt cs (runEnd cs p0 blanks) = [40] := z
          rw [z] at h3
          exact absurd h3 (by decide)
        | false => rw [lexAt_bad h h1 h2 h3]; intro z; cases z
theorem is_next (cs : Cs) (L : Lx) : Is cs (nextL cs L) := is_lex cs _
def cnt (cs : Cs) (p : Nat) : Nat := (cs.drop p).count 40
theorem cnt_le {cs : Cs} {p q : Nat} (h : p ≤ q) : cnt cs q ≤ cnt cs p := by
  unfold cnt
  have e : cs.drop q = (cs.drop p).drop (q - p) := by rw [List.drop_drop]; congr 1; omega
  rw [e]
  exact (List.drop_sublist _ _).count_le _
theorem cnt_br {cs : Cs} {p : Nat} (h : cs[p]? = some 40) : cnt cs p = 1 + cnt cs (p + 1) := by
  unfold cnt
  rw [drop_at h, List.count_cons]
  simp
  omega
theorem shape_some {cs : Cs} : ∀ {n : Nat} {L : Lx}, LxOk cs L → Is cs L → cnt cs L.p < n → ∃ r, takeShape cs n L = some r ∧ ∀ t L', r = .ok (t, L') → Is cs L'
  | 0, _, _, _, h => absurd h (Nat.not_lt_zero _)
  | n + 1, L, hL, hi, h => by
    by_cases h1 : L.s = [40]
    · have b := cnt_br (hi h1)
      have a1 : L.p + 1 ≤ (nextL cs L).p := by
        have := next_ge (cs := cs) L
        rw [h1] at this
        exact this
      have c1 := cnt_le (cs := cs) a1
      obtain ⟨r1, e1, i1⟩ := shape_some (n := n) (next_ok hL) (is_next cs L) (by omega)
      unfold takeShape
      rw [if_pos h1, e1]
      cases r1 with
      | error p => exact ⟨_, rfl, fun t L' z => by cases z⟩
      | ok x1 =>
        obtain ⟨l, L1⟩ := x1
        have l1 := takeShape_lx (next_ok hL) e1
        have g1 := takeShape_lt (next_ok hL) e1
        have c2 := cnt_le (cs := cs) (Nat.le_of_lt g1)
        obtain ⟨r2, e2, i2⟩ := shape_some (n := n) l1 (i1 _ _ rfl) (by omega)
        simp only [e2]
        cases r2 with
        | error p => exact ⟨_, rfl, fun t L' z => by cases z⟩
        | ok x2 =>
          obtain ⟨r, L2⟩ := x2
          simp only
          by_cases h2 : L2.s = [41]
          · rw [if_pos h2]
            exact ⟨_, rfl, fun t L' z => by cases z; exact is_next cs L2⟩
          · rw [if_neg h2]
            exact ⟨_, rfl, fun t L' z => by cases z⟩
    · unfold takeShape
      rw [if_neg h1]
      by_cases h2 : L.s = [111]
      · rw [if_pos h2]
        exact ⟨_, rfl, fun t L' z => by cases z; exact is_next cs L⟩
      · rw [if_neg h2]
        exact ⟨_, rfl, fun t L' z => by cases z⟩
/-- reading goes on from here -/
structure Fit (cs : Cs) (D : Nat) (L : Lx) : Prop where
  ok : LxOk cs L
  is_ : Is cs L
  lt : cnt cs L.p < D
theorem Fit.next {cs : Cs} {D : Nat} {L : Lx} (x : Fit cs D L) : Fit cs D (nextL cs L) := by
  have := cnt_le (cs := cs) (Nat.le_trans (Nat.le_add_right _ _) (next_ge (cs := cs) L))
  exact ⟨next_ok x.ok, is_next cs L, Nat.lt_of_le_of_lt this x.lt⟩
/-- .. and gives something -/
def Gives {α : Type} (cs : Cs) (D : Nat) (r : Res (α × Lx)) : Prop := ∃ x, r = some x ∧ ∀ t L', x = .ok (t, L') → Fit cs D L'
theorem gives_err {α : Type} {cs : Cs} {D p : Nat} : Gives (α := α) cs D (some (.error p)) := ⟨_, rfl, fun t L' z => by cases z⟩
theorem gives_ok {α : Type} {cs : Cs} {D : Nat} {a : α} {L : Lx} (h : Fit cs D L) : Gives cs D (some (.ok (a, L))) := ⟨_, rfl, fun t L' z => by cases z; exact h⟩
theorem gives_tk {α : Type} {cs w : Cs} {D : Nat} {L : Lx} {f : Lx → Res (α × Lx)} (x : Fit cs D L) (h : Fit cs D (nextL cs L) → L.p + w.length ≤ (nextL cs L).p → Gives cs D (f (nextL cs L))) : Gives cs D (tk cs w L f) := by
  by_cases e : L.s = w
  · rw [tk_yes e]
    have := next_ge (cs := cs) L
    rw [e] at this
    exact h x.next this
  · rw [tk_no e]
    exact gives_err
theorem gives_shape {cs : Cs} {D : Nat} {L : Lx} (x : Fit cs D L) : Gives cs D (takeShape cs D L) := by
  obtain ⟨r, e, i⟩ := shape_some x.ok x.is_ x.lt
  refine ⟨r, e, fun t L' z => ?_⟩
  subst z
  have l := takeShape_lt x.ok e
  have c := cnt_le (cs := cs) (Nat.le_of_lt l)
  exact ⟨takeShape_lx x.ok e, i _ _ rfl, Nat.lt_of_le_of_lt c x.lt⟩
theorem gives_entries {cs : Cs} {D : Nat} : ∀ {m : Nat} {L : Lx} {acc : List Sh}, Fit cs D L → cs.length < m + L.p → Gives cs D (takeEntries cs D m L acc)
  | 0, L, _, x, h => absurd x.ok.le (by omega)
  | m + 1, L, acc, x, h => by
    unfold takeEntries
    split
    · exact gives_ok x.next
    · obtain ⟨r, e, i⟩ := gives_shape x
      rw [e]
      cases r with
      | error p => exact gives_err
      | ok y =>
        obtain ⟨t, L1⟩ := y
        simp only
        have f1 := i _ _ rfl
        have l := takeShape_lt x.ok e
        by_cases h1 : L1.s = [59]
        · rw [if_pos h1]
          have := next_ge (cs := cs) L1
          exact gives_entries f1.next (by omega)
        · rw [if_neg h1]
          exact gives_err
theorem gives_table {cs : Cs} {D : Nat} {L : Lx} (x : Fit cs D L) : Gives cs D (takeTable cs D (cs.length + 1) L) := gives_tk x fun x1 h1 => gives_tk x1 fun x2 h2 => gives_entries x2 (by omega)
theorem gives_round {cs : Cs} {D : Nat} : ∀ {m : Nat} {L : Lx} {acc : List (List Sh)}, Fit cs D L → cs.length < m + L.p → Gives cs D (takeRound cs D (cs.length + 1) m L acc)
  | 0, L, _, x, h => absurd x.ok.le (by omega)
  | m + 1, L, acc, x, h => by
    unfold takeRound
    split
    · exact gives_ok x.next
    · obtain ⟨r, e, i⟩ := gives_table x
      rw [e]
      cases r with
      | error p => exact gives_err
      | ok y =>
        obtain ⟨t, L1⟩ := y
        simp only
        have l := (takeTable_lx x.ok e).2
        exact gives_round (i _ _ rfl) (by omega)
theorem gives_tables {cs : Cs} {D : Nat} : ∀ {m : Nat} {L : Lx} {acc : List (List Sh)}, Fit cs D L → cs.length < m + L.p → Gives cs D (takeTables cs D (cs.length + 1) m L acc)
  | 0, L, _, x, h => absurd x.ok.le (by omega)
  | m + 1, L, acc, x, h => by
    unfold takeTables
    split
    · obtain ⟨r, e, i⟩ := gives_table x
      rw [e]
      cases r with
      | error p => exact gives_err
      | ok y =>
        obtain ⟨t, L1⟩ := y
        simp only
        have l := (takeTable_lx x.ok e).2
        exact gives_tables (i _ _ rfl) (by omega)
    · exact gives_ok x
theorem gives_end {cs : Cs} {D : Nat} {L : Lx} (x : Fit cs D L) : Gives cs D (takeEnd cs D (cs.length + 1) L) := by
  unfold takeEnd
  split
  · refine gives_tk x.next fun x2 h2 => ?_
    obtain ⟨r, e, i⟩ := gives_round (m := cs.length + 1) (acc := []) x2 (by simp only [List.length_cons, List.length_nil] at h2; omega)
    rw [e]
    cases r with
    | error p => exact gives_err
    | ok y => exact gives_ok (i _ _ rfl)
  · split
    · exact gives_tk x.next fun x2 _ => gives_ok x2
    · exact gives_tk x fun x1 _ => gives_tk x1 fun x2 _ => gives_ok x2
theorem errOf_some {α : Type} (x : Except Nat α) : ∃ e, errOf (some x) = some e := by
  cases x with
  | error p => exact ⟨_, rfl⟩
  | ok a => exact ⟨_, rfl⟩
theorem fin_some {α : Type} (L : Lx) (a : α) : ∃ x, fin L a = some x := by
  unfold fin
  split <;> exact ⟨_, rfl⟩
theorem tk_some {α : Type} {cs w : Cs} {L : Lx} {f : Lx → Res α} (h : L.s = w → ∃ x, f (nextL cs L) = some x) : ∃ x, tk cs w L f = some x := by
  by_cases e : L.s = w
  · rw [tk_yes e]; exact h e
  · rw [tk_no e]; exact ⟨_, rfl⟩
theorem read_some {cs : Cs} {D : Nat} (h : cs.count 40 < D) (fm : Fm) : ∃ e, readOf D fm cs = some e := by
  have x : Fit cs D (lexAt cs 0) := ⟨lexAt_ok (Nat.zero_le _), is_lex cs 0, by
    have h0 : cnt cs 0 = cs.count 40 := by unfold cnt; rw [List.drop_zero]
    have := cnt_le (cs := cs) (Nat.zero_le (lexAt cs 0).p)
    omega⟩
  have out : ∀ {α : Type} {r : Res α}, (∃ y, r = some y) → ∃ e, errOf r = some e := fun ⟨y, e⟩ => by rw [e]; exact errOf_some y
  cases fm with
  | sh =>
    refine out ?_
    unfold readShape
    obtain ⟨r, e, i⟩ := gives_shape x
    rw [e]
    cases r with
    | error p => exact ⟨_, rfl⟩
    | ok y => exact fin_some _ _
  | tab =>
    refine out ?_
    unfold readTable
    obtain ⟨r, e, i⟩ := gives_table x
    rw [e]
    cases r with
    | error p => exact ⟨_, rfl⟩
    | ok y => exact fin_some _ _
  | pl =>
    refine out ?_
    unfold readPlan
    refine tk_some fun e1 => tk_some fun e2 => ?_
    have n1 := next_ge (cs := cs) (lexAt cs 0)
    have n2 := next_ge (cs := cs) (nextL cs (lexAt cs 0))
    rw [e1] at n1
    obtain ⟨r, e, i⟩ := gives_tables (m := cs.length + 1) (acc := []) x.next.next (by omega)
    rw [e]
    cases r with
    | error p => exact ⟨_, rfl⟩
    | ok y =>
      obtain ⟨ts, L2⟩ := y
      simp only
      obtain ⟨r2, e2', i2⟩ := gives_end (i _ _ rfl)
      rw [e2']
      cases r2 with
      | error p => exact ⟨_, rfl⟩
      | ok y2 =>
        obtain ⟨en, L3⟩ := y2
        simp only
        exact tk_some fun _ => fin_some _ _
end K10
set_option maxHeartbeats 4000000
namespace K10
open PySem PySem.Spec PyProof.Rows L2
open SX (S S_len S_inj S_cat)
def errD (e : Option Nat) : PyData := .list (match e with | none => [] | some p => [.int (p : Nat)])
/-- the text of it -/
def shE (e : Option Nat) : Str := (errD e).shown
theorem log_ok {p : Nat} (h : p ≤ 16000000) : p.log2 < 1920 := by
  by_cases z : p = 0
  · rw [z]; decide
  · have : p.log2 < 24 := (Nat.log2_lt z).mpr (by omega)
    omega
theorem shE_len (e : Option Nat) (h : ∀ p, e = some p → p ≤ 16000000) : (errD e).shown.length ≤ sizeLine := by
  rw [sizeLine_eq]
  cases e with
  | none =>
    have : (errD none).shown.length = 2 := by decide +kernel
    omega
  | some p =>
    have e1 : (errD (some p)).shown.length = (PyData.int (p : Nat)).shown.length + 2 := PyProof.Rows.shownLen_list1 _
    have e2 : (PyData.int (p : Nat)).shown = Str.ofString (toString ((p : Nat) : Int)) := by simp [PyData.shown]
    have lg : ((p : Nat) : Int).natAbs.log2 < 1920 := by
      rw [Int.natAbs_natCast]
      exact log_ok (h p rfl)
    have := PyProof.Rows.int_text_len_1921 lg
    rw [e1, e2]
    omega
section
variable {X : Cx}
def tRepr (ta : TA) : TE := fun σ H Q => ta σ H fun vs H1 => ∃ (a : Addr) (e : Option Nat), vs = [.ref a] ∧ H1 a = some (.lst (errL e)) ∧ (∀ p, e = some p → p ≤ 16000000) ∧ Q (.str (shE e)) H1
theorem pe_repr {e : Expr} {ta : TA} {p pos : Pos} (hgd : X.A.guards = some []) (hu : X.A.units + 64 < cLine) (hg : Gl X "repr") (hm : X.mg "repr" = none) (ha : PA X [e] ta)
    (he : starEach [e] X.env = [(false, eval e X.env)] := by rfl) : PE X (.Call (.Name "repr" p) [e] [] pos) (tRepr ta) := by
  refine ⟨fun pins s σ H Q I h => ?_⟩
  refine wpAny_Call_Name_kw (ld_blt (u := .builtin "repr") I hg hm (by decide +kernel) ?_)
  rw [he]
  refine Calls.callWith_builtin rfl (Calls.evalArgs_plain ?_)
  have run := ha.run pos pins s σ H _ I h
  rw [he] at run
  refine thn run fun us s1 hh => ?_
  obtain ⟨vs, H1, I1, r1, a, ee, rfl, hl, hp, q⟩ := hh
  obtain rfl := Vals.ref1 r1
  show wpAny _ _ (call (.builtin "repr") [.ref a]) _ _ s1
  obtain ⟨z, its, n, r, hll, eo⟩ := I1.lstM hl
  have R : ∃ as, Reads s1.heap (.ref a) (errD ee) as := by
    cases ee with
    | none =>
      cases r
      exact ⟨_, .list eo rfl rfl .nil⟩
    | some p0 =>
      obtain ⟨u, rfl, t, rfl⟩ := vals1 r
      exact ⟨_, .list eo rfl rfl (.cons (.int _ _) .nil)⟩
  obtain ⟨as, R⟩ := R
  have sh : (errD ee).showable = true := by
    cases ee with
    | none => rfl
    | some p0 =>
      have lg := log_ok (hp p0 rfl)
      simp [errD, PyData.showable, PyData.showableAll, lg]
  have nd : (errD ee).hasDict = false := by
    cases ee with
    | none => rfl
    | some p0 => simp [errD, PyData.hasDict, PyData.hasDictAll]
  have dp : (errD ee).depth ≤ 1 := by
    cases ee with
    | none => simp [errD, PyData.depth, PyData.depthAll]
    | some p0 => simp [errD, PyData.depth, PyData.depthAll]
  refine repr_of_reads' R sh (PyData.noDict_hsm nd) hgd (by omega) (fun _ _ e => e) (fun h' u tk hk => ⟨.str (shE ee), H1, I1.kept (t' := tk) hk, ⟨u, rfl⟩, q⟩) (shE_len ee hp)
end
section
variable {CX : CXT} {P : Program} {w : World} {K : PySem.W.Frag} {mg : Str → Option Value} {base : Heap} {k : Nat} {f : Addr} {fd : FuncData} {ps : List Str} {sp : Sp}
structure FnG (P : Program) (w : World) (K : PySem.W.Frag) (mg : Str → Option Value) (base : Heap) (CX : CXT) (k : Nat) (f : Addr) (fd : FuncData) (ps : List Str) (sp : Sp) : Prop where
  len : ∀ vs H Q E, sp vs H Q E → vs.length = ps.length
  go : ∀ (A : Around), A.guards = some [] → Room k A → ∀ (outer : List Env) (s : Shared) (H : Hp) (args : Args) (us : List Value) (vs : List V) (Q : VK) (E : XK), Env0 P w K mg base A outer s H → BindsTo s fd args (ps.zip us) → Vals vs us → sp vs H Q E →
    codeAny (model P w) A (.call (.ref f) args) (CR CX outer P w H s Q E) s
theorem Fun.okG {x qual : Str} {st : Stmt} {N : List Str} (F : Fun K x qual st f fd) (S : FnScope N ps (defScope st)) (len : ∀ vs H Q E, sp vs H Q E → vs.length = ps.length)
    (body : ∀ (cdv : Value) (A : Around) (outer : List Env) (s : Shared) (H : Hp) (vs : List V) (Q : VK) (E : XK), (A.deeper (envOfC qual (defScope st) s.heap.objs.size f cdv)).guards = some [] → Room k (A.deeper (envOfC qual (defScope st) s.heap.objs.size f cdv)) → sp vs H Q E →
      ∃ t, PSs (cxOf CX0 P w K mg base N qual (defScope st) f cdv A outer s H E).nox (defBody st) t ∧ t { nx := fun _ H' => Q .non H', rt := Q } (start N vs) H) : FnG P w K mg base CX0 (k + 1) f fd ps sp := by
  obtain ⟨oc, od, kV, doc, pm, an, cdv, ct, osl, rfl, lk, hcd⟩ := F.ex
  refine ⟨len, fun A gd hr outer s H args us vs Q E e0 hb r h => ?_⟩
  have KX : K.In s.heap := e0.mod.kin.keeps fun b o e => (e0.bs b o e).1
  obtain ⟨t, ht, hq⟩ := body cdv A outer s H vs Q E gd (hr.deeper _) h
  refine codeAny_call_function hr.depth (KX _ _ lk) rfl S.co S.gen rfl (PySem.W.codeRec_of KX hcd) (hb _ _ _ _ (wpAny_newFunctionEnv_cells S.kind (fun y hy => ?_) fun env he s1 x => ?_))
  · rcases S.par y.1 (List.of_mem_zip (show (y.1, y.2) ∈ ps.zip us from hy)).1 with z | z
    · exact .inl z
    · exact .inr ⟨z, PySem.W.cellsFrom_some _ _ _ (.inl z)⟩
  · subst he
    have J := inv_start (CX := CX0) (E := E) S hr.hd e0 (len _ _ _ _ h) r x
    refine ⟨(e0.mod.nolimit.keeps fun b o e => (e0.bs b o e).1).keeps x.toInCall.keep, codeAny_func (wpAny_mono (ht.nox.run [] s1 _ H _ J hq) (fun fl s' hs => ?_) fun _ _ z => z)⟩
    match fl, hs with
    | .ret u, ⟨v, σ', H', J', rv, q⟩ => exact ⟨v, H', J'.os, J'.bare, J'.base, J'.hok, rv, q⟩
    | .next, ⟨σ', H', J', q⟩ => exact ⟨V.non, H', J'.os, J'.bare, J'.base, J'.hok, rfl, q⟩
    | .brk, ⟨_, _, _, q⟩ => exact False.elim q
    | .cont, ⟨_, _, _, q⟩ => exact False.elim q
theorem pe_callG {X : Cx} {E : XK} {x : Str} {p pos : Pos} {e : Expr} {es : List Expr} {t : TA} (F : FnG X.prog X.w X.K X.mg X.base CX k f fd ps sp) (gd : X.A.guards = some []) (hr : Room k X.A) (hg : Gl X x) (hm : X.mg x = some (.ref f)) (hk : PySem.W.keepIn X.K (.ref f) = true) (hb : Binds X.K fd ps []) (hx : Passes CX X E)
    (ha : PA X (e :: es) t) (hdb : (x == ("__debug__" : Str)) = false := by decide) (he : starEach (e :: es) X.env = (false, eval e X.env) :: starEach es X.env := by rfl) (hpl : (backTo pos (starEach es X.env)).any (·.1) = false := by rfl) :
    PE X (.Call (.Name x p) (e :: es) [] pos) (tCall sp [] E t) := by
  refine ⟨fun pins s σ H Q I h => wpAny_Call_Name_kw (ld_glob I hg hm ?_ hdb)⟩
  refine PySem.W.callWith_K (h₀ := X.base) I.ok.mod.kin hk (thn (ha.run pos pins s σ H _ I h) fun us s1 hh => ?_) he hpl
  obtain ⟨vs, H1, I1, r, q⟩ := hh
  have q : sp (vs ++ []) H1 Q E := q
  rw [List.append_nil] at q
  have hl : (us ++ []).length = ps.length := by rw [List.append_nil, ← r.length]; exact F.len _ _ _ _ q
  have b := hb s1 us I1.kIn hl
  rw [List.append_nil] at b
  refine ⟨I1.kIn, wpAny_call (codeAny_mono (F.go X.A gd hr X.stack s1 H1 ⟨us, []⟩ us vs Q E I1.env0 b r q) fun res s' hq => ?_)⟩
  match res, hq with
  | .error e, hq => exact hx pins σ H1 s1 e s' I1 hq
  | .ok (.ret u), hq => exact I1.after hq
  | .ok .next, hq => exact False.elim hq
  | .ok .brk, hq => exact False.elim hq
  | .ok .cont, hq => exact False.elim hq
end
end K10
set_option maxHeartbeats 4000000
namespace K10
/-- the texts by hand, their first wrong places -/
def handOf : Fm → List (Cs × Nat)
  | .sh => [([40, 111, 32, 111, 32, 111, 41], 5), ([40, 111, 32, 111], 4), ([111, 111], 0), ([], 0), ([111, 32, 111], 2), ([40, 111, 41], 2), ([40, 41], 1), ([40, 32, 111, 32, 111, 32, 41, 32, 59], 8), ([40, 111, 44, 111, 41], 2), ([40, 111, 32, 111, 125], 4), ([79], 0), ([48], 0), ([40, 111, 32, 48, 41], 3), ([32, 10, 32], 3), ([40, 111, 9, 111, 41], 2)]
  | .tab => [([116, 97, 98, 108, 101, 32, 123, 125], 7), ([116, 97, 98, 108, 101, 32, 123, 32, 111, 32, 125], 10), ([116, 97, 98, 108, 101, 32, 123, 111, 59], 9), ([116, 97, 98, 108, 101, 32, 123, 111, 59, 125, 32, 120], 11), ([116, 97, 98, 108, 101, 115, 32, 123, 111, 59, 125], 0), ([116, 97, 98, 108, 101, 32, 40, 111, 32, 111, 41, 59], 6), ([116, 97, 98, 108, 101, 32, 123, 111, 32, 111, 59, 125], 9), ([116, 97, 98, 108, 101, 123, 111, 44, 125], 7), ([116, 97, 98, 108, 101], 5), ([111], 0)]
  | .pl => [([112, 108, 97, 110, 32, 123, 125], 6), ([112, 108, 97, 110, 32, 123, 108, 101, 102, 116, 125], 10), ([112, 108, 97, 110, 32, 123, 114, 111, 117, 110, 100, 32, 123, 125, 59, 125], 13), ([112, 108, 97, 110, 32, 123, 108, 101, 102, 116, 59, 32, 116, 97, 98, 108, 101, 32, 123, 111, 59, 125, 125], 12), ([112, 108, 97, 110, 32, 123, 116, 97, 98, 108, 101, 32, 123, 111, 59, 125, 125], 16), ([112, 108, 97, 110, 32, 123, 114, 111, 117, 110, 100, 32, 123, 116, 97, 98, 108, 101, 32, 123, 111, 59, 125, 125, 59, 125], 24), ([112, 108, 97, 110, 32, 123, 108, 101, 102, 116, 59, 32, 125, 32, 125], 14), ([112, 108, 97, 110, 32, 123, 117, 112, 59, 125], 6), ([112, 108, 97, 110, 32, 123, 108, 101, 102, 116, 59], 11), ([112, 108, 97, 110, 32, 123, 108, 101, 102, 116, 32, 49, 59, 125], 11), ([112, 108, 97, 110, 32, 123, 108, 101, 102, 116, 59, 32, 114, 105, 103, 104, 116, 59, 125], 12), ([112, 108, 97, 110], 4)]
def allFm : List Fm := [.sh, .tab, .pl]
def okHand (fm : Fm) (r : Cs × Nat) : Bool := decide (readOf 64 fm r.1 = some (some r.2)) && decide (r.1.length ≤ 100) && decide (r.2 ≤ 100)
theorem hand_all : (allFm.all fun fm => (handOf fm).all (okHand fm)) = true := by decide +kernel
theorem hand_ok {fm : Fm} {t : Cs} {n : Nat} (h : (t, n) ∈ handOf fm) : readOf 64 fm t = some (some n) ∧ t.length ≤ 100 ∧ n ≤ 100 := by
  have := List.all_eq_true.mp (List.all_eq_true.mp hand_all fm (by cases fm <;> simp [allFm])) (t, n) h
  unfold okHand at this
  simp only [Bool.and_eq_true, decide_eq_true_eq] at this
  exact ⟨this.1.1, this.1.2, this.2⟩
def br61 : Cs := List.replicate 61 40
def br59 : Cs := List.replicate 59 40 ++ [111] ++ (List.replicate 59 [32, 111, 41]).flatten ++ [41]
theorem br61_ok : readOf 64 .sh br61 = some (some 61) := by decide +kernel
theorem br59_ok : readOf 64 .sh br59 = some (some 237) := by decide +kernel
def right1 : Cs := [112, 108, 97, 110, 123, 108, 101, 102, 116, 59, 125]
def right2 : Cs := [112, 108, 97, 110, 32, 123, 114, 111, 117, 110, 100, 32, 123, 116, 97, 98, 108, 101, 32, 123, 111, 59, 125, 125, 32, 125]
theorem right1_ok : readOf 64 .pl right1 = some none := by decide +kernel
theorem right2_ok : readOf 64 .pl right2 = some none := by decide +kernel
end K10
namespace K10
open PySem PySem.Spec PyProof.Rows L2
open SX (S S_len S_inj S_cat)
abbrev sHand : Stmt := tp 47
/-- a text and its place -/
def TupAt (H : Hp) (v : V) (r : Cs × Nat) : Prop := ∃ p, v = .ref p ∧ H p = some (.tup [.str (S r.1), .int (r.2 : Nat)])
theorem TupAt.same {H H' : Hp} (k : Same H H') {v : V} {r : Cs × Nat} (x : TupAt H v r) : TupAt H' v r := by
  obtain ⟨p, e, h⟩ := x
  exact ⟨p, e, k _ _ h⟩
inductive TupsV (H : Hp) : List V → List (Cs × Nat) → Prop where
  | nil : TupsV H [] []
  | cons {v : V} {vs : List V} {r : Cs × Nat} {rs : List (Cs × Nat)} (h : TupAt H v r) (t : TupsV H vs rs) : TupsV H (v :: vs) (r :: rs)
theorem TupsV.same {H H' : Hp} (k : Same H H') {vs : List V} {rs : List (Cs × Nat)} (x : TupsV H vs rs) : TupsV H' vs rs := by
  induction x with
  | nil => exact .nil
  | cons h _ i => exact .cons (h.same k) i
theorem TupsV.app {H : Hp} {vs ws : List V} {rs qs : List (Cs × Nat)} (x : TupsV H vs rs) (y : TupsV H ws qs) : TupsV H (vs ++ ws) (rs ++ qs) := by
  induction x with
  | nil => exact y
  | cons h _ i => exact .cons h i
theorem TupsV.len {H : Hp} {vs : List V} {rs : List (Cs × Nat)} (x : TupsV H vs rs) : vs.length = rs.length := by
  induction x with
  | nil => rfl
  | cons _ _ i => exact congrArg Nat.succ i
theorem TupsV.get {H : Hp} {vs : List V} {rs : List (Cs × Nat)} (x : TupsV H vs rs) : ∀ {i : Nat} {v : V}, vs[i]? = some v → ∃ r, r ∈ rs ∧ TupAt H v r := by
  induction x with
  | nil => intro i v h; cases h
  | @cons v' vs' r rs' h t ih =>
    intro i v e
    cases i with
    | zero => cases e; exact ⟨r, List.Mem.head _, h⟩
    | succ i =>
      obtain ⟨r', a, b⟩ := ih e
      exact ⟨r', List.Mem.tail _ a, b⟩
def TupsAt (H : Hp) (v : V) (rs : List (Cs × Nat)) : Prop := ∃ p vs, v = .ref p ∧ H p = some (.lst vs) ∧ TupsV H vs rs
theorem TupsAt.same {H H' : Hp} (k : Same H H') {v : V} {rs : List (Cs × Nat)} (x : TupsAt H v rs) : TupsAt H' v rs := by
  obtain ⟨p, vs, e, h, t⟩ := x
  exact ⟨p, vs, e, k _ _ h, t.same k⟩
def LitA (t : TA) (rs : List (Cs × Nat)) : Prop := ∀ (σ : L2.St) (H : Hp) (Q : List V → Hp → Prop), (∀ vs H', Same H H' → TupsV H' vs rs → Q vs H') → t σ H Q
theorem lita_nil : LitA tNil [] := fun σ H Q h => h _ _ (Same.refl _) .nil
theorem lita_cons {t : TE} {u : TA} {r : Cs × Nat} {rs : List (Cs × Nat)} (h : Lit t (fun v H => TupAt H v r)) (hr : LitA u rs) : LitA (tCons t u) (r :: rs) := fun σ H Q k =>
  h σ H _ fun v H1 s1 a => hr σ H1 _ fun vs H2 s2 b => k _ _ (s1.trans s2) (.cons (a.same s2) b)
theorem lit_tup {a : Str} {t : Cs} {n : Nat} (e : a = S t) : Lit (tTup (tCons (tC (.str a)) (tCons (tC (.int (n : Nat))) tNil))) (fun v H => TupAt H v (t, n)) := fun σ H Q h =>
  ⟨le100 (show 2 ≤ 100 from by decide), fun p hp => h _ _ (same_upd hp) ⟨p, rfl, by rw [upd_same, e]⟩⟩
theorem lit_tlst {t : TA} {rs : List (Cs × Nat)} (h : LitA t rs) (hl : rs.length ≤ 100) : Lit (tLst t) (fun v H => TupsAt H v rs) := fun σ H Q k =>
  h σ H _ fun vs H1 s1 x => ⟨le100 (by rw [x.len]; exact hl), fun p hp => k _ _ (s1.trans (same_upd hp)) ⟨p, vs, rfl, upd_same, x.same (same_upd hp)⟩⟩
/-- x = [..] -/
theorem seq_lit {te : TE} {R : V → Hp → Prop} {i : Nat} {r : TS} {D : Ends} {σ : L2.St} {H : Hp} (L : Lit te R) (h : ∀ v H', Same H H' → R v H' → r D (σ.set i (some v)) H') : tSeq (tAsg te (gName i)) r D σ H := L _ _ _ h
/-- x = x + [..] -/
theorem seq_cat {te : TE} {i : Nat} {r : TS} {D : Ends} {σ : L2.St} {H : Hp} {v : V} {rs qs : List (Cs × Nat)} (L : Lit te (fun v H => TupsAt H v qs)) (hσ : σ[i]? = some (some v)) (hv : TupsAt H v rs) (hl : rs.length + qs.length ≤ 100) (h : ∀ v' H', Same H H' → TupsAt H' v' (rs ++ qs) → r D (σ.set i (some v')) H') :
    tSeq (tAsg (tOp rCat (tVar i) te) (gName i)) r D σ H := by
  obtain ⟨p, vs, rfl, hp, t⟩ := hv
  refine ⟨_, hσ, L _ _ _ fun v2 H2 s2 x => ?_⟩
  obtain ⟨p2, ws, rfl, hp2, t2⟩ := x
  refine ⟨p, p2, vs, ws, rfl, rfl, s2 _ _ hp, hp2, le100 (by rw [t.len, t2.len]; exact hl), fun p3 hp3 => h _ _ (s2.trans (same_upd hp3)) ⟨p3, vs ++ ws, rfl, upd_same, ((t.same s2).app t2).same (same_upd hp3)⟩⟩
/-- a text so many times -/
theorem op_mulS {X : Cx} : OpR X (binaryOp .Mult) (fun x y H Q => ∃ (z : Str) (n : Int), x = .str z ∧ y = .int n ∧ PySem.MulOk z n ∧ Q (.str (PySem.Txt.mul z n)) H) := by
  intro pins s σ H x y v u Q I rx ry h
  obtain ⟨z, n, rfl, rfl, ok, q⟩ := h
  obtain ⟨t, rfl⟩ := rx
  obtain ⟨t', rfl⟩ := ry
  exact PySem.SB.mul ok fun t2 k2 => ⟨.str _, H, I.tok k2, ⟨_, rfl⟩, q⟩
theorem m61 : PySem.MulOk "(" 61 := by unfold PySem.MulOk; decide +kernel
theorem m61' : PySem.Txt.mul "(" 61 = S br61 := by decide +kernel
theorem m59 : PySem.MulOk "(" 59 := by unfold PySem.MulOk; decide +kernel
theorem m59a : PySem.MulOk " o)" 59 := by unfold PySem.MulOk; decide +kernel
theorem m59' : PySem.Txt.mul "(" 59 ++ "o" ++ PySem.Txt.mul " o)" 59 ++ ")" = S br59 := by decide +kernel
theorem m59l : (PySem.Txt.mul "(" 59).length = 59 ∧ (PySem.Txt.mul "(" 59 ++ "o").length = 60 ∧ (PySem.Txt.mul " o)" 59).length = 177 ∧ (PySem.Txt.mul "(" 59 ++ "o" ++ PySem.Txt.mul " o)" 59).length = 237 := by decide +kernel
theorem s_r1 : ("plan{left;}" : Str) = S right1 := by decide +kernel
theorem s_r2 : ("plan {round {table {o;}} }" : Str) = S right2 := by decide +kernel
/-- a list of one number is that list -/
theorem dp_one {K : PySem.W.Frag} {H : Hp} {p : Addr} {n : Nat} (h : H p = some (.lst [.int (n : Nat)])) : Dp K H (.ref p) (.list [.int (n : Nat)]) := .lst (SqL.of h) (.cons (.int _) .nil)
theorem sh_one (n : Nat) : SeqAt.shaped (.list [.int (n : Nat)]) = true := by
  simp [SeqAt.shaped, PyData.canLay0, PyData.canLayAll0, PyData.depth, PyData.depthAll]
theorem eqv_one (n : Nat) : PyData.eqv (.list [.int (n : Nat)]) (.list [.int (n : Nat)]) = true := by
  simp [PyData.eqv, PyData.eqvAll]
section
variable {w : World} {K : PySem.W.Frag} {mg : Str → Option Value} {base : Heap}
abbrev nHand : List Str := ["_law_rules_here", "_law_shapes", "_law_tables", "_law_plans", "_law_form", "_law_rows", "_law_text", "_law_place"]
theorem scHand : FnScope nHand ["_law_rules_here"] (defScope sHand) := ⟨rfl, rfl, rfl, by decide +kernel, rfl, by decide +kernel, by decide +kernel⟩
def spHand : Sp := fun vs H Q _ => ∃ a, vs = [.ref a] ∧ RulesAt H a ∧ ∀ H', Q (.bl true) H'
theorem ok_hand {f fT fW : Addr} {fd fdT fdW : FuncData} (N : Fn K mg "_law_hand_right" sHand f fd ["_law_rules_here"]) (T : GT K mg) (NT' : Fn K mg "_law_told" sTold fT fdT ["_law_form", "_law_text"]) (NW : Fn K mg "_law_wrong_place" sWrong fW fdW ["_law_rules_here", "_law_text", "_law_form"])
    (GT' : FnOk PP w K mg base CX0 72 fT fdT ["_law_form", "_law_text"] (spTold 64)) (GW : FnOk PP w K mg base CX0 3 fW fdW ["_law_rules_here", "_law_text", "_law_form"] (spWrong 64)) : FnG PP w K mg base CX0 73 f fd ["_law_rules_here"] spHand := by
  refine Fun.okG N.F scHand (fun vs H Q E h => ?_) (fun cdv A outer s H vs Q E gd hr h => ?_)
  · obtain ⟨_, rfl, _⟩ := h
    rfl
  · obtain ⟨a, rfl, ha, q⟩ := h
    have hu := hr.units
    refine ⟨_, pss_cons (ps_set (i := 1) scHand.nd rfl (Or.inl rfl) (pe_lst (pa_cons (pe_tup (pa_cons pe_str (pa_cons pe_int pa_nil))) (pa_cons (pe_tup (pa_cons pe_str (pa_cons pe_int pa_nil))) (pa_cons (pe_tup (pa_cons pe_str (pa_cons pe_int pa_nil))) (pa_cons (pe_tup (pa_cons pe_str (pa_cons pe_int pa_nil))) (pa_cons (pe_tup (pa_cons pe_str (pa_cons pe_int pa_nil))) (pa_cons (pe_tup (pa_cons pe_str (pa_cons pe_int pa_nil))) (pa_cons (pe_tup (pa_cons pe_str (pa_cons pe_int pa_nil))) (pa_cons (pe_tup (pa_cons pe_str (pa_cons pe_int pa_nil))) pa_nil))))))))))
      (pss_cons (ps_set (i := 1) scHand.nd rfl (Or.inl rfl) (pe_op op_cat (pv 1) (pe_lst (pa_cons (pe_tup (pa_cons pe_str (pa_cons pe_int pa_nil))) (pa_cons (pe_tup (pa_cons pe_str (pa_cons pe_int pa_nil))) (pa_cons (pe_tup (pa_cons pe_str (pa_cons pe_int pa_nil))) (pa_cons (pe_tup (pa_cons pe_str (pa_cons pe_int pa_nil))) (pa_cons (pe_tup (pa_cons pe_str (pa_cons pe_int pa_nil))) (pa_cons (pe_tup (pa_cons pe_str (pa_cons pe_int pa_nil))) (pa_cons (pe_tup (pa_cons pe_str (pa_cons pe_int pa_nil))) pa_nil))))))))))
      (pss_cons (ps_set (i := 2) scHand.nd rfl (Or.inl rfl) (pe_lst (pa_cons (pe_tup (pa_cons pe_str (pa_cons pe_int pa_nil))) (pa_cons (pe_tup (pa_cons pe_str (pa_cons pe_int pa_nil))) (pa_cons (pe_tup (pa_cons pe_str (pa_cons pe_int pa_nil))) (pa_cons (pe_tup (pa_cons pe_str (pa_cons pe_int pa_nil))) (pa_cons (pe_tup (pa_cons pe_str (pa_cons pe_int pa_nil))) pa_nil)))))))
      (pss_cons (ps_set (i := 2) scHand.nd rfl (Or.inl rfl) (pe_op op_cat (pv 2) (pe_lst (pa_cons (pe_tup (pa_cons pe_str (pa_cons pe_int pa_nil))) (pa_cons (pe_tup (pa_cons pe_str (pa_cons pe_int pa_nil))) (pa_cons (pe_tup (pa_cons pe_str (pa_cons pe_int pa_nil))) (pa_cons (pe_tup (pa_cons pe_str (pa_cons pe_int pa_nil))) (pa_cons (pe_tup (pa_cons pe_str (pa_cons pe_int pa_nil))) pa_nil))))))))
      (pss_cons (ps_set (i := 3) scHand.nd rfl (Or.inl rfl) (pe_lst (pa_cons (pe_tup (pa_cons pe_str (pa_cons pe_int pa_nil))) (pa_cons (pe_tup (pa_cons pe_str (pa_cons pe_int pa_nil))) (pa_cons (pe_tup (pa_cons pe_str (pa_cons pe_int pa_nil))) (pa_cons (pe_tup (pa_cons pe_str (pa_cons pe_int pa_nil))) pa_nil))))))
      (pss_cons (ps_set (i := 3) scHand.nd rfl (Or.inl rfl) (pe_op op_cat (pv 3) (pe_lst (pa_cons (pe_tup (pa_cons pe_str (pa_cons pe_int pa_nil))) (pa_cons (pe_tup (pa_cons pe_str (pa_cons pe_int pa_nil))) (pa_cons (pe_tup (pa_cons pe_str (pa_cons pe_int pa_nil))) pa_nil))))))
      (pss_cons (ps_set (i := 3) scHand.nd rfl (Or.inl rfl) (pe_op op_cat (pv 3) (pe_lst (pa_cons (pe_tup (pa_cons pe_str (pa_cons pe_int pa_nil))) (pa_cons (pe_tup (pa_cons pe_str (pa_cons pe_int pa_nil))) (pa_cons (pe_tup (pa_cons pe_str (pa_cons pe_int pa_nil))) pa_nil))))))
      (pss_cons (ps_set (i := 3) scHand.nd rfl (Or.inl rfl) (pe_op op_cat (pv 3) (pe_lst (pa_cons (pe_tup (pa_cons pe_str (pa_cons pe_int pa_nil))) (pa_cons (pe_tup (pa_cons pe_str (pa_cons pe_int pa_nil))) pa_nil)))))
      (pss_cons (ps_for PassesOwn.never rfl (pi_list (pe_lst (pa_cons (pe_tup (pa_cons pe_str (pa_cons (pv 1) pa_nil))) (pa_cons (pe_tup (pa_cons pe_str (pa_cons (pv 2) pa_nil))) (pa_cons (pe_tup (pa_cons pe_str (pa_cons (pv 3) pa_nil))) pa_nil)))))
          (pg_tup rfl (pgs_cons (pg_name (i := 4) scHand.nd rfl (Or.inl rfl)) (pgs_cons (pg_name (i := 5) scHand.nd rfl (Or.inl rfl)) pgs_nil)))
        (pss_one (ps_for PassesOwn.never rfl (pi_list (pv 5)) (pg_tup rfl (pgs_cons (pg_name (i := 6) scHand.nd rfl (Or.inl rfl)) (pgs_cons (pg_name (i := 7) scHand.nd rfl (Or.inl rfl)) pgs_nil)))
          (pss_one (ps_if (PW.pt (pw_or (pt_cmpR op_ne (pe_repr gd hu (by rfl) T.rep (pa_cons (pe_call GT' hr (by rfl) NT'.g NT'.F.kp NT'.b .nil pass0 (pa_cons (pv 4) (pa_cons (pv 6) pa_nil))) pa_nil)) (pe_repr gd hu (by rfl) T.rep (pa_cons (pe_lst (pa_cons (pv 7) pa_nil)) pa_nil)) (nomark _))
              (pw_or1 (pt_cmpR (op_neD hu) (pe_call GW (hr.mono (by decide)) (by rfl) NW.g NW.F.kp NW.b .nil pass0 (pa_cons (pv 0) (pa_cons (pv 6) (pa_cons (pv 4) pa_nil)))) (pe_lst (pa_cons (pv 7) pa_nil)) (nomark _)))))
            (pss_one (ps_ret pe_bl)) pss_nil)))))
      (pss_cons (ps_if (PW.pt (pw_or (pt_cmpR (op_neD hu) (pe_call GT' hr (by rfl) NT'.g NT'.F.kp NT'.b .nil pass0 (pa_cons pe_str (pa_cons (pe_op op_mulS pe_str pe_int) pa_nil))) (pe_lst (pa_cons pe_int pa_nil)) (nomark _))
          (pw_or1 (pt_cmpR (op_neD hu) (pe_call GT' hr (by rfl) NT'.g NT'.F.kp NT'.b .nil pass0 (pa_cons pe_str (pa_cons (pe_op op_add_str (pe_op op_add_str (pe_op op_add_str (pe_op op_mulS pe_str pe_int) pe_str) (pe_op op_mulS pe_str pe_int)) pe_str) pa_nil))) (pe_lst (pa_cons pe_int pa_nil)) (nomark _)))))
        (pss_one (ps_ret pe_bl)) pss_nil)
      (pss_one (ps_ret (pe_cmpR (op_eq_nilL hr.units0) (pe_op op_cat (pe_call GT' hr (by rfl) NT'.g NT'.F.kp NT'.b .nil pass0 (pa_cons pe_str (pa_cons pe_str pa_nil))) (pe_call GT' hr (by rfl) NT'.g NT'.F.kp NT'.b .nil pass0 (pa_cons pe_str (pa_cons pe_str pa_nil)))) (pe_lst pa_nil) (nomark _))))))))))))), ?_⟩
    have z0 : sizeLine = 16777216 := sizeLine_eq
    refine seq_lit (lit_tlst (lita_cons (lit_tup (a := "(o o o)") (t := [40, 111, 32, 111, 32, 111, 41]) (n := 5) (by decide +kernel)) (lita_cons (lit_tup (a := "(o o") (t := [40, 111, 32, 111]) (n := 4) (by decide +kernel)) (lita_cons (lit_tup (a := "oo") (t := [111, 111]) (n := 0) (by decide +kernel)) (lita_cons (lit_tup (a := "") (t := []) (n := 0) (by decide +kernel)) (lita_cons (lit_tup (a := "o o") (t := [111, 32, 111]) (n := 2) (by decide +kernel)) (lita_cons (lit_tup (a := "(o)") (t := [40, 111, 41]) (n := 2) (by decide +kernel)) (lita_cons (lit_tup (a := "()") (t := [40, 41]) (n := 1) (by decide +kernel)) (lita_cons (lit_tup (a := "( o o ) ;") (t := [40, 32, 111, 32, 111, 32, 41, 32, 59]) (n := 8) (by decide +kernel)) lita_nil)))))))) (by decide)) fun v1 H1 s1 r1 => ?_
    refine seq_cat (lit_tlst (lita_cons (lit_tup (a := "(o,o)") (t := [40, 111, 44, 111, 41]) (n := 2) (by decide +kernel)) (lita_cons (lit_tup (a := "(o o}") (t := [40, 111, 32, 111, 125]) (n := 4) (by decide +kernel)) (lita_cons (lit_tup (a := "O") (t := [79]) (n := 0) (by decide +kernel)) (lita_cons (lit_tup (a := "0") (t := [48]) (n := 0) (by decide +kernel)) (lita_cons (lit_tup (a := "(o 0)") (t := [40, 111, 32, 48, 41]) (n := 3) (by decide +kernel)) (lita_cons (lit_tup (a := " \n ") (t := [32, 10, 32]) (n := 3) (by decide +kernel)) (lita_cons (lit_tup (a := "(o\to)") (t := [40, 111, 9, 111, 41]) (n := 2) (by decide +kernel)) lita_nil))))))) (by decide)) rfl r1 (by decide) fun v2 H2 s2 r2 => ?_
    refine seq_lit (lit_tlst (lita_cons (lit_tup (a := "table {}") (t := [116, 97, 98, 108, 101, 32, 123, 125]) (n := 7) (by decide +kernel)) (lita_cons (lit_tup (a := "table { o }") (t := [116, 97, 98, 108, 101, 32, 123, 32, 111, 32, 125]) (n := 10) (by decide +kernel)) (lita_cons (lit_tup (a := "table {o;") (t := [116, 97, 98, 108, 101, 32, 123, 111, 59]) (n := 9) (by decide +kernel)) (lita_cons (lit_tup (a := "table {o;} x") (t := [116, 97, 98, 108, 101, 32, 123, 111, 59, 125, 32, 120]) (n := 11) (by decide +kernel)) (lita_cons (lit_tup (a := "tables {o;}") (t := [116, 97, 98, 108, 101, 115, 32, 123, 111, 59, 125]) (n := 0) (by decide +kernel)) lita_nil))))) (by decide)) fun v3 H3 s3 r3 => ?_
    refine seq_cat (lit_tlst (lita_cons (lit_tup (a := "table (o o);") (t := [116, 97, 98, 108, 101, 32, 40, 111, 32, 111, 41, 59]) (n := 6) (by decide +kernel)) (lita_cons (lit_tup (a := "table {o o;}") (t := [116, 97, 98, 108, 101, 32, 123, 111, 32, 111, 59, 125]) (n := 9) (by decide +kernel)) (lita_cons (lit_tup (a := "table{o,}") (t := [116, 97, 98, 108, 101, 123, 111, 44, 125]) (n := 7) (by decide +kernel)) (lita_cons (lit_tup (a := "table") (t := [116, 97, 98, 108, 101]) (n := 5) (by decide +kernel)) (lita_cons (lit_tup (a := "o") (t := [111]) (n := 0) (by decide +kernel)) lita_nil))))) (by decide)) rfl r3 (by decide) fun v4 H4 s4 r4 => ?_
    refine seq_lit (lit_tlst (lita_cons (lit_tup (a := "plan {}") (t := [112, 108, 97, 110, 32, 123, 125]) (n := 6) (by decide +kernel)) (lita_cons (lit_tup (a := "plan {left}") (t := [112, 108, 97, 110, 32, 123, 108, 101, 102, 116, 125]) (n := 10) (by decide +kernel)) (lita_cons (lit_tup (a := "plan {round {};}") (t := [112, 108, 97, 110, 32, 123, 114, 111, 117, 110, 100, 32, 123, 125, 59, 125]) (n := 13) (by decide +kernel)) (lita_cons (lit_tup (a := "plan {left; table {o;}}") (t := [112, 108, 97, 110, 32, 123, 108, 101, 102, 116, 59, 32, 116, 97, 98, 108, 101, 32, 123, 111, 59, 125, 125]) (n := 12) (by decide +kernel)) lita_nil)))) (by decide)) fun v5 H5 s5 r5 => ?_
    refine seq_cat (lit_tlst (lita_cons (lit_tup (a := "plan {table {o;}}") (t := [112, 108, 97, 110, 32, 123, 116, 97, 98, 108, 101, 32, 123, 111, 59, 125, 125]) (n := 16) (by decide +kernel)) (lita_cons (lit_tup (a := "plan {round {table {o;}};}") (t := [112, 108, 97, 110, 32, 123, 114, 111, 117, 110, 100, 32, 123, 116, 97, 98, 108, 101, 32, 123, 111, 59, 125, 125, 59, 125]) (n := 24) (by decide +kernel)) (lita_cons (lit_tup (a := "plan {left; } }") (t := [112, 108, 97, 110, 32, 123, 108, 101, 102, 116, 59, 32, 125, 32, 125]) (n := 14) (by decide +kernel)) lita_nil))) (by decide)) rfl r5 (by decide) fun v6 H6 s6 r6 => ?_
    refine seq_cat (lit_tlst (lita_cons (lit_tup (a := "plan {up;}") (t := [112, 108, 97, 110, 32, 123, 117, 112, 59, 125]) (n := 6) (by decide +kernel)) (lita_cons (lit_tup (a := "plan {left;") (t := [112, 108, 97, 110, 32, 123, 108, 101, 102, 116, 59]) (n := 11) (by decide +kernel)) (lita_cons (lit_tup (a := "plan {left 1;}") (t := [112, 108, 97, 110, 32, 123, 108, 101, 102, 116, 32, 49, 59, 125]) (n := 11) (by decide +kernel)) lita_nil))) (by decide)) rfl r6 (by decide) fun v7 H7 s7 r7 => ?_
    refine seq_cat (lit_tlst (lita_cons (lit_tup (a := "plan {left; right;}") (t := [112, 108, 97, 110, 32, 123, 108, 101, 102, 116, 59, 32, 114, 105, 103, 104, 116, 59, 125]) (n := 12) (by decide +kernel)) (lita_cons (lit_tup (a := "plan") (t := [112, 108, 97, 110]) (n := 4) (by decide +kernel)) lita_nil)) (by decide)) rfl r7 (by decide) fun v8 H8 s8 r8 => ?_
    have rs : TupsAt H8 v2 (handOf .sh) := ((((((r2.same s3).same s4).same s5).same s6).same s7).same s8)
    have rt : TupsAt H8 v4 (handOf .tab) := ((((r4.same s5).same s6).same s7).same s8)
    have rp : TupsAt H8 v8 (handOf .pl) := r8
    have s08 := (((((((s1.trans s2).trans s3).trans s4).trans s5).trans s6).trans s7).trans s8)
    clear r1 r2 r3 r4 r5 r6 r7 r8 s1 s2 s3 s4 s5 s6 s7 s8
    have ha8 := ha.same s08
    refine ⟨_, rfl, le100 (show 2 ≤ 100 from by decide), fun q1 hq1 => ⟨_, rfl, le100 (show 2 ≤ 100 from by decide), fun q2 hq2 => ⟨_, rfl, le100 (show 2 ≤ 100 from by decide), fun q3 hq3 => ⟨le100 (show 3 ≤ 100 from by decide), fun q4 hq4 => ?_⟩⟩⟩⟩
    have t1 := same_upd (o := .tup [.str "SHAPE1", v2]) hq1
    have t2 := same_upd (o := .tup [.str "TABLE1", v4]) hq2
    have t3 := same_upd (o := .tup [.str "PLAN1", v8]) hq3
    have t4 := same_upd (o := .lst [.ref q1, .ref q2, .ref q3]) hq4
    have f1 := t4 _ _ (t3 _ _ (t2 _ _ (upd_same (H := H8) (a := q1) (o := .tup [.str "SHAPE1", v2]))))
    have f2 := t4 _ _ (t3 _ _ (upd_same (a := q2) (o := .tup [.str "TABLE1", v4])))
    have f3 := t4 _ _ (upd_same (a := q3) (o := .tup [.str "PLAN1", v8]))
    have f4 := upd_same (H := upd (upd (upd H8 q1 (.tup [.str "SHAPE1", v2])) q2 (.tup [.str "TABLE1", v4])) q3 (.tup [.str "PLAN1", v8])) (a := q4) (o := .lst [.ref q1, .ref q2, .ref q3])
    have t := ((t1.trans t2).trans t3).trans t4
    have rs := rs.same t
    have rt := rt.same t
    have rp := rp.same t
    have ha9 := ha8.same t
    clear t1 t2 t3 t4
    generalize upd (upd (upd (upd H8 q1 (.tup [.str "SHAPE1", v2])) q2 (.tup [.str "TABLE1", v4])) q3 (.tup [.str "PLAN1", v8])) q4 (.lst [.ref q1, .ref q2, .ref q3]) = H9 at *
    refine ⟨q4, rfl, ⟨_, SqL.of f4⟩, for_it walk_list (fun i σ' H' => Same H9 H' ∧ ∃ (r4 r5 r6 r7 : Option V), σ' = [some (.ref a), some v2, some v4, some v8, r4, r5, r6, r7]) ⟨Same.refl _, none, none, none, none, rfl⟩ (fun _ _ _ _ z => SqL.of (z.1 _ _ f4)) ?_ ?_⟩
    · rintro i x σ H10 H11 hi ⟨sa, x4, x5, x6, x7, rfl⟩ ⟨rfl, hx⟩
      obtain ⟨qi, fm, v, rfl, hqi, hv⟩ : ∃ (qi : Addr) (fm : Fm) (v : V), x = .ref qi ∧ H9 qi = some (.tup [.str (S (fmS fm)), v]) ∧ TupsAt H9 v (handOf fm) := by
        match i, hx with
        | 0, hx => cases hx; exact ⟨q1, .sh, v2, rfl, by rw [← s_fsh]; exact f1, rs⟩
        | 1, hx => cases hx; exact ⟨q2, .tab, v4, rfl, by rw [← s_ftab]; exact f2, rt⟩
        | 2, hx => cases hx; exact ⟨q3, .pl, v8, rfl, by rw [← s_fpl]; exact f3, rp⟩
        | i + 3, hx => cases hx
      refine ⟨qi, _, rfl, SqT.of (sa _ _ hqi), rfl, _, _, rfl, _, _, rfl, rfl, ?_⟩
      obtain ⟨p, vs, rfl, hp, tv⟩ := hv.same sa
      refine ⟨_, rfl, p, rfl, ⟨_, SqL.of hp⟩, for_it walk_list (fun i σ' H' => Same H11 H' ∧ ∃ (r6 r7 : Option V), σ' = [some (.ref a), some v2, some v4, some v8, some (.str (S (fmS fm))), some (.ref p), r6, r7]) ⟨Same.refl _, _, _, rfl⟩ (fun _ _ _ _ z => SqL.of (z.1 _ _ hp)) ?_ ?_⟩
      · rintro k y σ H12 H13 hk ⟨sb, y6, y7, rfl⟩ ⟨rfl, hy⟩
        obtain ⟨⟨tx, n⟩, hm, qy, rfl, hqy⟩ := (tv.same sb).get hy
        obtain ⟨ok1, ok2, ok3⟩ := hand_ok hm
        have bd : ∀ p, some n = some p → p ≤ 16000000 := fun p e => by cases e; omega
        refine ⟨qy, _, rfl, SqT.of hqy, rfl, _, _, rfl, _, _, rfl, rfl, ?_⟩
        refine ⟨_, rfl, _, rfl, fm, tx, some n, rfl, by omega, ok1, fun l1 G1 g1 hl1 e1 => ⟨l1, some n, rfl, e1, bd, _, rfl, le100 (show 1 ≤ 100 from by decide), fun l2 hl2 => ⟨l2, some n, rfl, upd_same, bd, rfl, _, rfl, if_false_of (by simp) ?_⟩⟩⟩
        have g2 := g1.trans (same_upd (o := .lst [.int (n : Nat)]) hl2)
        have hag := ((ha9.same sa).same sb).same g2
        refine ⟨_, rfl, _, rfl, _, rfl, a, tx, fm, some n, rfl, hag, by omega, ok1, fun l3 G3 g3 hl3 e3 => ⟨_, rfl, le100 (show 1 ≤ 100 from by decide), fun l4 hl4 => ⟨.list [.int (n : Nat)], .list [.int (n : Nat)], dp_one (same_upd hl4 _ _ e3), dp_one upd_same, sh_one n, sh_one n, _, rfl, if_false_of (by rw [eqv_one]; rfl) ?_⟩⟩⟩
        exact ⟨((sb.trans g2).trans g3).trans (same_upd hl4), _, _, rfl⟩
      · rintro σ H12 ⟨sb, y6, y7, rfl⟩
        exact ⟨sa.trans sb, _, _, _, _, rfl⟩
    · rintro σ H10 ⟨sa, x4, x5, x6, x7, rfl⟩
      refine ⟨_, 61, rfl, rfl, m61, .sh, br61, some 61, by rw [← s_fsh, m61']; rfl, (show 61 ≤ 16000000 from by decide), br61_ok, fun l1 G1 g1 hl1 e1 => ⟨le100 (show 1 ≤ 100 from by decide), fun l2 hl2 => ⟨.list [.int (61 : Nat)], .list [.int (61 : Nat)], dp_one (same_upd hl2 _ _ e1), dp_one upd_same, sh_one 61, sh_one 61, _, rfl, if_false_of (by rw [eqv_one]; rfl) ?_⟩⟩⟩
      obtain ⟨n1, n2, n3, n4⟩ := m59l
      have o1 : ("o" : Str).length = 1 := by decide +kernel
      have o2 : (")" : Str).length = 1 := by decide +kernel
      refine ⟨_, 59, rfl, rfl, m59, _, _, rfl, rfl, by omega, _, 59, rfl, rfl, m59a, _, _, rfl, rfl, by omega, _, _, rfl, rfl, by omega, .sh, br59, some 237, by rw [← s_fsh, m59']; rfl, (by decide +kernel), br59_ok, fun l3 G3 g3 hl3 e3 => ⟨le100 (show 1 ≤ 100 from by decide), fun l4 hl4 => ⟨.list [.int (237 : Nat)], .list [.int (237 : Nat)], dp_one (same_upd hl4 _ _ e3), dp_one upd_same, sh_one 237, sh_one 237, _, rfl, if_false_of (by rw [eqv_one]; rfl) ?_⟩⟩⟩
      refine ⟨.pl, right1, none, by rw [← s_fpl, ← s_r1]; rfl, (by decide +kernel), right1_ok, fun l5 G5 g5 hl5 e5 => ⟨.pl, right2, none, by rw [← s_fpl, ← s_r2]; rfl, (by decide +kernel), right2_ok, fun l6 G6 g6 hl6 e6 => ?_⟩⟩
      refine ⟨l5, l6, [], [], rfl, rfl, g6 _ _ e5, e6, le100 (show 0 ≤ 100 from by decide), fun l7 hl7 => ⟨le100 (show 0 ≤ 100 from by decide), fun l8 hl8 => ⟨l7, l8, [], rfl, rfl, SqL.of (same_upd hl8 _ _ upd_same), SqL.of upd_same, q _⟩⟩⟩
end
end K10
set_option maxHeartbeats 4000000
namespace K10
theorem runs_le {cs : Cs} {m : Nat} {stk : List Cs} {L : Lx} {e : Option Nat} (r : Runs cs m stk L e) : LxOk cs L → ∀ p, e = some p → p ≤ cs.length := by
  induction r with
  | done => intro _ p z; cases z
  | nt _ _ _ _ ih => exact ih
  | tm _ _ _ ih => exact fun h => ih (next_ok h)
  | bad _ _ =>
    intro h p z
    cases z
    exact Nat.le_trans (Nat.le_add_right _ _) h.le
theorem read_le {cs : Cs} {D : Nat} (hD : D ≤ 1000) {fm : Fm} {e : Option Nat} (h : readOf D fm cs = some e) : ∀ p, e = some p → p ≤ cs.length := by
  obtain ⟨m, r⟩ := ru_of hD h
  exact runs_le r (lexAt_ok (Nat.zero_le _))
end K10
namespace K10
open PySem PySem.Spec PyProof.Rows L2
open SX (S S_len S_inj S_cat)
abbrev sLaw : Stmt := tp 48
theorem cut_take (cs : Cs) (k : Nat) (h : k ≤ cs.length) : cutS (S cs) none (some (k : Int)) = S (cs.take k) := by
  unfold cutS
  rw [HT.sIx_none, HT.sIx_nat, S_len, Nat.min_eq_left h, Nat.sub_zero]
  rfl
theorem form_at (i : Nat) : ∃ fm, atI [V.str "SHAPE1", .str "TABLE1", .str "PLAN1"] ((0 + (i : Int)) % 3) = some (.str (S (fmS fm))) := by
  have e : (0 + (i : Int)) % 3 = ((i % 3 : Nat) : Int) := by omega
  rw [e, s_fsh, s_ftab, s_fpl]
  have : i % 3 = 0 ∨ i % 3 = 1 ∨ i % 3 = 2 := by omega
  rcases this with h | h | h <;> rw [h]
  · exact ⟨.sh, atI_nat rfl⟩
  · exact ⟨.tab, atI_nat rfl⟩
  · exact ⟨.pl, atI_nat rfl⟩
theorem ws_mono {k m k' m' : Nat} {ws : List Cs} (h : WS k m ws) (hk : k ≤ k') (hm : m ≤ m') : WS k' m' ws := ⟨h.wd, Nat.le_trans h.br hk, Nat.le_trans h.len hm⟩
theorem ws_nil (k m : Nat) : WS k m [] := ⟨(by intro _ z; cases z), Nat.zero_le _, Nat.zero_le _⟩
section
variable {w : World} {K : PySem.W.Frag} {mg : Str → Option Value} {base : Heap}
abbrev nLaw : List Str := ["_law_script", "_law_source_here", "_law_rules_here", "_law_turn", "_law_form", "_law_signs", "_law_lap", "_law_text", "_law_cut", "_law_due"]
theorem scLaw : FnScope nLaw ["_law_script"] (defScope sLaw) := ⟨rfl, rfl, rfl, by decide +kernel, rfl, by decide +kernel, by decide +kernel⟩
def spLaw (K : PySem.W.Frag) : Sp := fun vs H Q _ => ∃ (s : Addr) (ns : List Int), vs = [.ref s] ∧ SqL K H s (ns.map V.int) ∧ ns.length ≤ 1000000 ∧ ∀ H', Q (.bl true) H'
/-- the defs that the law calls -/
structure LD (w : World) (K : PySem.W.Frag) (mg : Str → Option Value) (base : Heap) : Prop where
  T : GT K mg
  so : ∃ f fd, Fn K mg "_law_source" sSource f fd ["_law_script"] ∧ FnOk PP w K mg base CX0 1 f fd ["_law_script"] (spSource K)
  ru : ∃ f fd, Fn K mg "_law_rules" sRules f fd [] ∧ FnOk PP w K mg base CX0 1 f fd [] spRules
  dr : ∃ f fd, Fn K mg "_law_drawn_signs" sDrawn f fd ["_law_source_here", "_law_rules_here", "_law_form"] ∧ FnOk PP w K mg base CX0 3 f fd ["_law_source_here", "_law_rules_here", "_law_form"] spDrawn
  pk : ∃ f fd, Fn K mg "_law_pick" sPick f fd ["_law_source_here", "_law_many"] ∧ FnOk PP w K mg base CX0 1 f fd ["_law_source_here", "_law_many"] spPick
  sp : ∃ f fd, Fn K mg "_law_spoilt_signs" sSpoilt f fd ["_law_source_here", "_law_signs"] ∧ FnOk PP w K mg base CX0 3 f fd ["_law_source_here", "_law_signs"] spSpoilt
  sc : ∃ f fd, Fn K mg "_law_spaced" sSpaced f fd ["_law_source_here", "_law_signs"] ∧ FnOk PP w K mg base CX0 3 f fd ["_law_source_here", "_law_signs"] spSpaced
  wr : ∃ f fd, Fn K mg "_law_wrong_place" sWrong f fd ["_law_rules_here", "_law_text", "_law_form"] ∧ FnOk PP w K mg base CX0 3 f fd ["_law_rules_here", "_law_text", "_law_form"] (spWrong 64)
  to : ∃ f fd, Fn K mg "_law_told" sTold f fd ["_law_form", "_law_text"] ∧ FnOk PP w K mg base CX0 72 f fd ["_law_form", "_law_text"] (spTold 64)
  ha : ∃ f fd, Fn K mg "_law_hand_right" sHand f fd ["_law_rules_here"] ∧ FnG PP w K mg base CX0 73 f fd ["_law_rules_here"] spHand
theorem ok_law {f : Addr} {fd : FuncData} (F : Fun K "law" "law" sLaw f fd) (L : LD w K mg base) : FnG PP w K mg base CX0 74 f fd ["_law_script"] (spLaw K) := by
  have T := L.T
  obtain ⟨f1, fd1, N1, G1⟩ := L.so
  obtain ⟨f2, fd2, N2, G2⟩ := L.ru
  obtain ⟨f3, fd3, N3, G3⟩ := L.dr
  obtain ⟨f4, fd4, N4, G4⟩ := L.pk
  obtain ⟨f5, fd5, N5, G5⟩ := L.sp
  obtain ⟨f6, fd6, N6, G6⟩ := L.sc
  obtain ⟨f7, fd7, N7, G7⟩ := L.wr
  obtain ⟨f8, fd8, N8, G8⟩ := L.to
  obtain ⟨f9, fd9, N9, G9⟩ := L.ha
  refine Fun.okG F scLaw (fun vs H Q E h => ?_) (fun cdv A outer s H vs Q E gd hr h => ?_)
  · obtain ⟨_, _, rfl, _⟩ := h
    rfl
  · obtain ⟨s0, ns, rfl, hS, hn, q⟩ := h
    have hu := hr.units
    refine ⟨_, pss_cons (ps_set (i := 1) scLaw.nd rfl (Or.inl rfl) (pe_call G1 (hr.mono (by decide)) (by rfl) N1.g N1.F.kp N1.b .nil pass0 (pa_cons (pv 0) pa_nil)))
      (pss_cons (ps_set (i := 2) scLaw.nd rfl (Or.inl rfl) (pe_call0 G2 (hr.mono (by decide)) (by rfl) N2.g N2.F.kp N2.b .nil pass0))
      (pss_cons (ps_for PassesOwn.never rfl (pi_range1 (by rfl) T.rng (pa_cons pe_int pa_nil)) (pg_name (i := 3) scLaw.nd rfl (Or.inl rfl))
        (pss_cons (ps_set (i := 4) scLaw.nd rfl (Or.inl rfl) (pe_ix ix_list (pe_lst (pa_cons pe_str (pa_cons pe_str (pa_cons pe_str pa_nil)))) (pe_op op_mod (pv 3) pe_int) (fun _ _ => rfl)))
        (pss_cons (ps_set (i := 5) scLaw.nd rfl (Or.inl rfl) (pe_call G3 (hr.mono (by decide)) (by rfl) N3.g N3.F.kp N3.b .nil pass0 (pa_cons (pv 1) (pa_cons (pv 2) (pa_cons (pv 4) pa_nil)))))
        (pss_cons (ps_for PassesOwn.never rfl (pi_range1 (by rfl) T.rng (pa_cons (pe_call G4 (hr.mono (by decide)) (by rfl) N4.g N4.F.kp N4.b .nil pass0 (pa_cons (pv 1) (pa_cons pe_int pa_nil))) pa_nil)) (pg_name (i := 6) scLaw.nd rfl (Or.inl rfl))
          (pss_one (ps_set (i := 5) scLaw.nd rfl (Or.inl rfl) (pe_ifExp (pt_cmpR (op_ne_nilL hr.units0) (pv 5) (pe_lst pa_nil) (nomark _)) (pe_call G5 (hr.mono (by decide)) (by rfl) N5.g N5.F.kp N5.b .nil pass0 (pa_cons (pv 1) (pa_cons (pv 5) pa_nil))) (pe_lst pa_nil)))))
        (pss_cons (ps_set (i := 7) scLaw.nd rfl (Or.inl rfl) (pe_call G6 (hr.mono (by decide)) (by rfl) N6.g N6.F.kp N6.b .nil pass0 (pa_cons (pv 1) (pa_cons (pv 5) pa_nil))))
        (pss_one (ps_for PassesOwn.never rfl (pi_list (pe_lst (pa_cons (pe_callB call_len_str (by rfl) T.len PySem.boot_len (pa_cons (pv 7) pa_nil)) (pa_cons (pe_call G4 (hr.mono (by decide)) (by rfl) N4.g N4.F.kp N4.b .nil pass0 (pa_cons (pv 1) (pa_cons (pe_op op_add (pe_callB call_len_str (by rfl) T.len PySem.boot_len (pa_cons (pv 7) pa_nil)) pe_int) pa_nil))) pa_nil)))) (pg_name (i := 8) scLaw.nd rfl (Or.inl rfl))
          (pss_cons (ps_set (i := 9) scLaw.nd rfl (Or.inl rfl) (pe_call G7 (hr.mono (by decide)) (by rfl) N7.g N7.F.kp N7.b .nil pass0 (pa_cons (pv 2) (pa_cons (pe_slice sl_str (pv 7) po_none (po_some (pv 8))) (pa_cons (pv 4) pa_nil)))))
          (pss_one (ps_for PassesOwn.never rfl (pi_range1 (by rfl) T.rng (pa_cons pe_int pa_nil)) (pg_name (i := 6) scLaw.nd rfl (Or.inl rfl))
            (pss_one (ps_if (pt_cmpR op_ne (pe_repr gd hu (by rfl) T.rep (pa_cons (pe_call G8 (hr.mono (by decide)) (by rfl) N8.g N8.F.kp N8.b .nil pass0 (pa_cons (pv 4) (pa_cons (pe_slice sl_str (pv 7) po_none (po_some (pv 8))) pa_nil))) pa_nil)) (pe_repr gd hu (by rfl) T.rep (pa_cons (pv 9) pa_nil)) (nomark _))
              (pss_one (ps_ret pe_bl)) pss_nil))))))))))))
      (pss_one (ps_ret (pe_callG G9 gd hr (by rfl) N9.g N9.F.kp N9.b pass0 (pa_cons (pv 2) pa_nil)))))), ?_⟩
    have z0 : sizeLine = 16777216 := sizeLine_eq
    refine ⟨_, rfl, s0, ns, rfl, hS, hn, fun a c H1 k1 ha1 hc1 hs1 => ⟨rfl, fun r H2 k2 hr2 rul2 => ?_⟩⟩
    have hs2 := hs1.same k2
    refine ⟨6, rfl, by decide, by decide, for_it walk_range (fun i σ' H' => Src H' a c ∧ RulesAt H' r ∧ ∃ (x3 x4 x5 x6 x7 x8 x9 : Option V), σ' = [some (.ref s0), some (.ref a), some (.ref r), x3, x4, x5, x6, x7, x8, x9]) ⟨hs2, rul2, _, _, _, _, _, _, _, rfl⟩ (fun _ _ _ _ _ => trivial) ?_ ?_⟩
    · rintro i x σ H3 H4 hi ⟨hs3, rul3, x3, x4, x5, x6, x7, x8, x9, rfl⟩ ⟨rfl, rfl⟩
      obtain ⟨fm, hat⟩ := form_at i
      refine ⟨le100 (show 3 ≤ 100 from by decide), fun p hp => ⟨_, rfl, _, _, rfl, rfl, (by decide : (0 : Int) < 3), p, _, _, .str (S (fmS fm)), rfl, rfl, SqL.of upd_same, hat, ?_⟩⟩
      have s4 := same_upd (o := .lst [V.str "SHAPE1", .str "TABLE1", .str "PLAN1"]) hp
      have hs4 := hs3.same s4
      have rul4 := rul3.same s4
      generalize upd H4 p (.lst [V.str "SHAPE1", .str "TABLE1", .str "PLAN1"]) = H4' at *
      refine ⟨_, rfl, _, rfl, _, rfl, a, c, r, fm, rfl, hs4, rul4, fun g ws H5 k5 hs5 hg5 h5 ht hl hp' => ?_⟩
      have rul5 := rul4.kps hs4 k5
      have hgc := hs4.free_c hg5
      have w5 := ws_drawn ht hl hp'
      refine ⟨_, rfl, a, c, 3, rfl, hs5, by decide, by decide, fun r1 H6 hr1 hs6 k6 => ⟨r1, rfl, by omega, by omega, ?_⟩⟩
      have h6 := k6.k _ _ h5 (hs5.ne h5) hgc
      have rul6 := rul5.kps hs5 k6
      refine for_it walk_range (fun j σ' H' => Src H' a c ∧ RulesAt H' r ∧ ∃ (g : Addr) (ws : List Cs) (x6 x7 x8 x9 : Option V), σ' = [some (.ref s0), some (.ref a), some (.ref r), some (.int (0 + (i : Int))), some (.str (S (fmS fm))), some (.ref g), x6, x7, x8, x9] ∧ H' g = some (.lst (lstS ws)) ∧ g ≠ c ∧ WS (40 + j) (1700 + j) ws)
        ⟨hs6, rul6, g, ws, _, _, _, _, rfl, h6, hgc, w5⟩ (fun _ _ _ _ _ => trivial) ?_ ?_
      · rintro j y σ G1 G2 hj ⟨gs, grul, g', ws', y6, y7, y8, y9, rfl, gh, gc, gw⟩ ⟨rfl, rfl⟩
        refine ⟨_, rfl, le100 (show 0 ≤ 100 from by decide), fun u hu' => ⟨g', u, _, rfl, rfl, SqL.of (same_upd hu' _ _ gh), SqL.of upd_same, _, rfl, ?_⟩⟩
        have gu := same_upd (o := .lst []) hu'
        have gs2 := gs.same gu
        have grul2 := grul.same gu
        have gh2 := gu _ _ gh
        show if (!(lstS ws').isEmpty) = true then _ else _
        refine ite_both (fun hb => ?_) (fun hb => ?_)
        · have hne : ws' ≠ [] := fun z => by rw [z] at hb; cases hb
          refine ⟨_, rfl, _, rfl, a, c, g', ws', _, _, rfl, gs2, gh2, gc, hne, gw, by omega, fun l2 ws2 G3 gk gs3 hl2 e2 w2 => ?_⟩
          exact ⟨gs3, grul2.kps gs2 gk, l2, ws2, _, _, _, _, rfl, e2, gs2.free_c hl2, w2⟩
        · refine ⟨le100 (show 0 ≤ 100 from by decide), fun l2 hl2 => ?_⟩
          have gl := same_upd (o := .lst []) hl2
          exact ⟨gs2.same gl, grul2.same gl, l2, [], _, _, _, _, rfl, upd_same, gs2.free_c hl2, ws_nil _ _⟩
      · rintro σ G1 ⟨gs, grul, g', ws', y6, y7, y8, y9, rfl, gh, gc, gw⟩
        have hr12 : (r1 : Int).toNat ≤ 2 := by omega
        have gw2 := ws_mono gw (show _ ≤ 42 by omega) (show _ ≤ 1702 by omega)
        refine ⟨_, rfl, _, rfl, a, c, g', ws', 42, 1702, rfl, gs, gh, gc, gw2, by decide, fun cs G2 gk gs2 hcl hcc => ?_⟩
        have grul2 := grul.kps gs gk
        refine ⟨_, rfl, S cs, rfl, by rw [S_len]; omega, _, rfl, _, rfl, S cs, rfl, by rw [S_len]; omega, _, _, rfl, rfl, a, c, _, rfl, gs2, by rw [S_len]; omega, by rw [S_len]; omega, fun r2 G3 hr2' gs3 gk3 => ⟨le100 (show 2 ≤ 100 from by decide), fun p3 hp3 => ?_⟩⟩
        have grul3 := grul2.kps gs2 gk3
        rw [S_len] at hr2'
        have gp := same_upd (o := .lst [.int ((S cs).length : Nat), .int (r2 : Nat)]) hp3
        have gs4 := gs3.same gp
        have grul4 := grul3.same gp
        have gp4 : upd G3 p3 (.lst [.int ((S cs).length : Nat), .int (r2 : Nat)]) p3 = some (.lst [.int ((S cs).length : Nat), .int (r2 : Nat)]) := upd_same
        generalize upd G3 p3 (.lst [.int ((S cs).length : Nat), .int (r2 : Nat)]) = G4 at *
        refine ⟨p3, rfl, ⟨_, SqL.of gp4⟩, for_it walk_list (fun k σ' H' => Same G4 H' ∧ ∃ (x6 x8 x9 : Option V), σ' = [some (.ref s0), some (.ref a), some (.ref r), some (.int (0 + (i : Int))), some (.str (S (fmS fm))), some (.ref g'), x6, some (.str (S cs)), x8, x9]) ⟨Same.refl _, _, _, _, rfl⟩ (fun _ _ _ _ z => SqL.of (z.1 _ _ gp4)) ?_ ?_⟩
        · rintro k y σ G5 G6 hk ⟨sk, z6, z8, z9, rfl⟩ ⟨rfl, hy⟩
          obtain ⟨n, hn', rfl⟩ : ∃ n : Nat, n ≤ cs.length ∧ y = .int (n : Nat) := by
            match k, hy with
            | 0, hy => cases hy; exact ⟨cs.length, Nat.le_refl _, by rw [S_len]⟩
            | 1, hy => cases hy; exact ⟨r2, by omega, rfl⟩
            | k + 2, hy => cases hy
          have hct : (cs.take n).count 40 < 64 := by
            have := (List.take_sublist n cs).count_le 40
            omega
          have hlt : (cs.take n).length ≤ 16000000 := by rw [List.length_take]; omega
          obtain ⟨e, he⟩ := read_some hct fm
          have bd : ∀ p, e = some p → p ≤ 16000000 := fun p z => Nat.le_trans (read_le (by decide) he p z) hlt
          refine ⟨_, rfl, _, rfl, _, rfl, _, rfl, S cs, rfl, by rw [S_len]; omega, _, rfl, r, cs.take n, fm, e, by rw [cut_take _ _ hn'] <;> rfl, grul4.same sk, hlt, he, fun l G7 g7 hl7 e7 => ?_⟩
          refine ⟨2, rfl, by decide, by decide, for_it walk_range (fun m σ' H' => Same G7 H' ∧ ∃ (x6 : Option V), σ' = [some (.ref s0), some (.ref a), some (.ref r), some (.int (0 + (i : Int))), some (.str (S (fmS fm))), some (.ref g'), x6, some (.str (S cs)), some (.int (n : Nat)), some (.ref l)]) ⟨Same.refl _, _, rfl⟩ (fun _ _ _ _ _ => trivial) ?_ ?_⟩
          · rintro m y σ G8 G9 hm ⟨sm, w6, rfl⟩ ⟨rfl, rfl⟩
            refine ⟨_, rfl, _, rfl, _, rfl, _, rfl, S cs, rfl, by rw [S_len]; omega, fm, cs.take n, e, by rw [cut_take _ _ hn'] <;> rfl, hlt, he, fun l2 G10 g10 hl10 e10 => ⟨l2, e, rfl, e10, bd, _, rfl, l, e, rfl, g10 _ _ (sm _ _ e7), bd, rfl, _, rfl, if_false_of (by simp) ?_⟩⟩
            exact ⟨sm.trans g10, _, rfl⟩
          · rintro σ G8 ⟨sm, w6, rfl⟩
            exact ⟨(sk.trans g7).trans sm, _, _, _, rfl⟩
        · rintro σ G5 ⟨sk, z6, z8, z9, rfl⟩
          exact ⟨gs4.same sk, grul4.same sk, _, _, _, _, _, _, _, rfl⟩
    · rintro σ H3 ⟨hs3, rul3, x3, x4, x5, x6, x7, x8, x9, rfl⟩
      exact ⟨_, rfl, r, rfl, rul3, q⟩
end
end K10
set_option maxHeartbeats 4000000
namespace K10
open PySem PySem.Spec PyProof.Rows L2
/-- at most the script at a is tracked, frozen -/
def Lone (K : PySem.W.Frag) (H : Hp) (a : Addr) : Prop := ∀ b u, H b = some u → b = a ∧ K.lookup a = none ∧ ∃ o xs, u = HO.frz o (.lst xs)
section
variable {P : Program} {w : World} {K : PySem.W.Frag} {mg mb : Str → Option Value} {k : Nat} {fa a : Addr} {fd : FuncData} {x : Str} {sp : Sp} {s : Shared} {vs : List Value} {ns : List Int}
theorem lone_ground {H : Hp} (L : Lone K H a) (ha : s.heap.get? a = some { cls := .type "list", data := .seq vs.toArray }) (KX : K.In s.heap) (g1 : s.heap.Ns mainGlobals mg) (g2 : s.heap.Ns builtinsNs mb) (g3 : ∀ x : Str, x ≠ "__name__" → mb x = bootBuiltins x) (g4 : s.heap.NoLimit) (g5 : s.gens = #[])
    (hok : HOk P w H s.heap) : Env0 P w K mg (hidT s.heap H) callerA [] s H := by
  -- a dict is no tracked object
  have plain : ∀ {b : Addr} {o : Obj}, s.heap.get? b = some o → (b = a → K.lookup a = none → False) → (hidT s.heap H).get? b = some o := fun {b o} e n => hidT_get e (by
    cases z : H b with
    | none => rfl
    | some u => exact (n (L b u z).1 (L b u z).2.1).elim)
  have names : ∀ {b : Addr} {m : Str → Option Value}, s.heap.Ns b m → (hidT s.heap H).Ns b m := fun {b m} z => by
    obtain ⟨o, es, ep, e, d, r⟩ := z
    refine ⟨o, es, ep, plain e fun z _ => ?_, d, r⟩
    rw [z, ha] at e
    rw [← Option.some.inj e] at d
    cases d
  obtain ⟨mc, l1, l2⟩ := g4
  refine ⟨rfl, ⟨fun b o e => plain (KX b o e) fun z n => ?_, names g1, ⟨mb, names g2, g3⟩, ⟨mc, names l1, l2⟩⟩, fun b o e => of_hidT e, Nat.le_of_eq (hidT_size _ _), trivial, fun b z => ?_, hok, .of_eq g5⟩
  · rw [z, n] at e
    cases e
  · exact absurd (show b ∈ ([] : List Addr) from z) (by simp)
theorem call_lone {H : Hp} (L : Lone K H a) (ha : s.heap.get? a = some { cls := .type "list", data := .seq vs.toArray }) (KX : K.In s.heap) (g1 : s.heap.Ns mainGlobals mg) (g2 : s.heap.Ns builtinsNs mb) (g3 : ∀ x : Str, x ≠ "__name__" → mb x = bootBuiltins x) (g4 : s.heap.NoLimit) (g5 : s.gens = #[])
    (hok : HOk P w H s.heap) (hr : Room k callerA) (F : ∀ base : Heap, K.In base → base.Ns mainGlobals mg → FnG P w K mg base CX0 k fa fd [x] sp) (hb : ∀ (s : Shared) (u : Value), BindsTo s fd ⟨[u], []⟩ [(x, u)]) (hsp : sp [.ref a] H (fun v _ => v = .bl true) fun _ _ _ => False) :
    codeAny (model P w) callerA (.call (.ref fa) ⟨[.ref a], []⟩) (fun r s' => r = .ok (.ret (.bool true)) ∧ PySem.OldK s.heap s'.heap ∧ s'.os = s.os ∧ AllBare s'.gens) s := by
  have e0 := lone_ground L ha KX g1 g2 g3 g4 g5 hok
  refine codeAny_mono ((F _ e0.mod.kin e0.mod.glob).go callerA rfl hr [] s H ⟨[.ref a], []⟩ [.ref a] [.ref a] _ _ e0 (hb s (.ref a)) (.cons rfl .nil) hsp) fun r s' h => ?_
  match r, h with
  | .error _, h => exact False.elim h
  | .ok .next, h => exact False.elim h
  | .ok .brk, h => exact False.elim h
  | .ok .cont, h => exact False.elim h
  | .ok (.ret u), ⟨v, H', os, bare, un, hok', rv, q⟩ =>
    have q : v = .bl true := q
    subst q
    obtain rfl : u = Value.bool true := rv
    refine ⟨rfl, PySem.OldK.of_keep fun b o e => ?_, os, bare⟩
    cases z : H b with
    | none => exact un.keep b o e z (fun z => absurd (show b ∈ ([] : List Addr) from z) (by simp)) (by simp)
    | some u =>
      obtain ⟨_, _, ob, xs, rfl⟩ := L b u z
      have z2 := un.frzs b ob _ z
      obtain ⟨e1, _⟩ := hok b _ z
      obtain ⟨e2, _⟩ := hok' b _ z2
      rw [e] at e1
      cases e1
      exact e2
theorem call_script (ha : s.heap.get? a = some { cls := .type "list", data := .seq vs.toArray }) (hi : IntsAre vs ns) (hl : ns.length ≤ sizeLine) (KX : K.In s.heap) (g1 : s.heap.Ns mainGlobals mg) (g2 : s.heap.Ns builtinsNs mb) (g3 : ∀ x : Str, x ≠ "__name__" → mb x = bootBuiltins x) (g4 : s.heap.NoLimit) (g5 : s.gens = #[])
    (hr : Room k callerA) (F : ∀ base : Heap, K.In base → base.Ns mainGlobals mg → FnG P w K mg base CX0 k fa fd [x] sp) (hb : ∀ (s : Shared) (u : Value), BindsTo s fd ⟨[u], []⟩ [(x, u)]) (hsp : ∀ H : Hp, SqL K H a (ns.map V.int) → sp [.ref a] H (fun v _ => v = .bl true) fun _ _ _ => False) :
    codeAny (model P w) callerA (.call (.ref fa) ⟨[.ref a], []⟩) (fun r s' => r = .ok (.ret (.bool true)) ∧ PySem.OldK s.heap s'.heap ∧ s'.os = s.os ∧ AllBare s'.gens) s := by
  have len := hi.length
  have hz : vs.toArray.size ≤ sizeLine := by rw [List.size_toArray, len]; exact hl
  cases e : K.lookup a with
  | some o =>
    have e2 := KX a o e
    rw [ha] at e2
    cases e2
    refine call_lone (H := fun _ => none) (fun b u z => ?_) ha KX g1 g2 g3 g4 g5 (fun b u z => ?_) hr F hb (hsp _ (.inr ⟨_, vs.toArray, _, e, rfl, rfl, rfl, hz, by simpa using vals_ints hi⟩))
    · exact nomatch (show (none : Option HO) = some u from z)
    · exact nomatch (show (none : Option HO) = some u from z)
  | none =>
    have h1 : (fun b => if b = a then some (HO.frz { cls := .type "list", data := .seq vs.toArray } (.lst (ns.map V.int))) else none : Hp) a = some (HO.frz { cls := .type "list", data := .seq vs.toArray } (.lst (ns.map V.int))) := if_pos rfl
    refine call_lone (H := fun b => if b = a then some (HO.frz { cls := .type "list", data := .seq vs.toArray } (.lst (ns.map V.int))) else none) (fun b u z => ?_) ha KX g1 g2 g3 g4 g5 (fun b u z => ?_) hr F hb (hsp _ (.inl (.inr ⟨_, h1⟩)))
    · by_cases hb : b = a
      · subst hb
        have z := h1.symm.trans z
        cases z
        exact ⟨rfl, e, _, _, rfl⟩
      · exact nomatch (show (none : Option HO) = some u from (if_neg hb).symm.trans z)
    · by_cases hb : b = a
      · subst hb
        have z := h1.symm.trans z
        cases z
        exact ⟨ha, by rw [List.length_map]; exact hl, vs, _, vals_ints hi, ha⟩
      · exact nomatch (show (none : Option HO) = some u from (if_neg hb).symm.trans z)
end
/-- the end that the head leaves -/
theorem walkG {l : PySem.W.OpenLaw} {n k : Nat} {q : Program} {loose : List Str} {XP : (Str → Option Value) → Heap → Prop} {YP : World → Heap → Prop} {d : DefRec} {K : Params → PySem.W.Frag} {sp : PySem.W.Frag → Sp} {x : Str} (hn : l.most = some n) (hn2 : n ≤ sizeLine) (hdf : d.params.defaults = []) (hr : Room k callerA)
    (hY : ∀ (w : World) (h : Heap), YP w h → (K w.params).In h)
    (F : ∀ (w : World) (mg : Str → Option Value) (fa : Addr) (h : Heap), (K w.params).In h → h.Ns mainGlobals mg → mg d.name = some (.ref fa) →
      ∃ fd : FuncData, (∀ (s : Shared) (u : Value), BindsTo s fd ⟨[u], []⟩ [(x, u)]) ∧ ∀ base : Heap, (K w.params).In base → base.Ns mainGlobals mg → FnG l.prog w (K w.params) mg base CX0 k fa fd [x] (sp (K w.params)))
    (hsp : ∀ (K : PySem.W.Frag) (H : Hp) (a : Addr) (ns : List Int), ns.length ≤ n → SqL K H a (ns.map V.int) → sp K [.ref a] H (fun v _ => v = .bl true) fun _ _ _ => False) :
    PySem.W.WalkO q loose XP YP l.row.toRowW d [] (fun f vs => PySem.call f vs) := by
  refine Att.attach_call hn hdf fun w s₀ s₁ mg mb fa o pm cd doc a vs ns G Y ho hd hcd hmg hobj hints hlen hg => ?_
  have KX := hY w _ Y
  obtain ⟨fd, hb, hF⟩ := F w mg fa _ KX G.T.g hmg
  exact call_script hobj hints (Nat.le_trans hlen hn2) KX G.T.g G.T.b G.T.builtins G.T.nolimit hg hr hF hb fun H hS => hsp _ H a ns hlen hS
end K10
set_option maxHeartbeats 8000000
namespace K10
open PySem PySem.Spec PyProof.Rows L2
open SX (S S_len S_inj S_cat)
theorem all_mk {w : World} {K : PySem.W.Frag} {h : Heap} {mg : Str → Option Value} {fa CL CP CT CTab CB fd0 fd1 fd2 fd3 fd4 fd5 fd6 fd7 fd8 fd9 fd10 fd11 fd12 fd13 fd14 fd15 fd16 fd17 fd18 fd19 fd20 fd21 fd22 fd23 fd24 fd25 fd26 fd27 fd28 fm0 fm1 fm2 fm3 fm4 fm5 fm6 fICT cdaCT ccCT NCT baseCT fICTab cdaCTab ccCTab NCTab baseCTab fICB cdaCB ccCB NCB baseCB aE : Addr} (X : K.In h) (G : h.Ns mainGlobals mg) (hfa : mg "law" = some (.ref fa))
    {odd0 and0 : Option Addr} {sld0 : Array (Option Value)} {ocd0 kVd0 dcd0 pmd0 cdd0 ctd0 : Value}
    {odd1 and1 : Option Addr} {sld1 : Array (Option Value)} {ocd1 kVd1 dcd1 pmd1 cdd1 ctd1 : Value}
    {odd2 and2 : Option Addr} {sld2 : Array (Option Value)} {ocd2 kVd2 dcd2 pmd2 cdd2 ctd2 : Value}
    {odd3 and3 : Option Addr} {sld3 : Array (Option Value)} {ocd3 kVd3 dcd3 pmd3 cdd3 ctd3 : Value}
    {odd4 and4 : Option Addr} {sld4 : Array (Option Value)} {ocd4 kVd4 dcd4 pmd4 cdd4 ctd4 : Value}
    {odd5 and5 : Option Addr} {sld5 : Array (Option Value)} {ocd5 kVd5 dcd5 pmd5 cdd5 ctd5 : Value}
    {odd6 and6 : Option Addr} {sld6 : Array (Option Value)} {ocd6 kVd6 dcd6 pmd6 cdd6 ctd6 : Value}
    {odd7 and7 : Option Addr} {sld7 : Array (Option Value)} {ocd7 kVd7 dcd7 pmd7 cdd7 ctd7 : Value}
    {odd8 and8 : Option Addr} {sld8 : Array (Option Value)} {ocd8 kVd8 dcd8 pmd8 cdd8 ctd8 : Value}
    {odd9 and9 : Option Addr} {sld9 : Array (Option Value)} {ocd9 kVd9 dcd9 pmd9 cdd9 ctd9 : Value}
    {odd10 and10 : Option Addr} {sld10 : Array (Option Value)} {ocd10 kVd10 dcd10 pmd10 cdd10 ctd10 : Value}
    {odd11 and11 : Option Addr} {sld11 : Array (Option Value)} {ocd11 kVd11 dcd11 pmd11 cdd11 ctd11 : Value}
    {odd12 and12 : Option Addr} {sld12 : Array (Option Value)} {ocd12 kVd12 dcd12 pmd12 cdd12 ctd12 : Value}
    {odd13 and13 : Option Addr} {sld13 : Array (Option Value)} {ocd13 kVd13 dcd13 pmd13 cdd13 ctd13 : Value}
    {odd14 and14 : Option Addr} {sld14 : Array (Option Value)} {ocd14 kVd14 dcd14 pmd14 cdd14 ctd14 : Value}
    {odd15 and15 : Option Addr} {sld15 : Array (Option Value)} {ocd15 kVd15 dcd15 pmd15 cdd15 ctd15 : Value}
    {odd16 and16 : Option Addr} {sld16 : Array (Option Value)} {ocd16 kVd16 dcd16 pmd16 cdd16 ctd16 : Value}
    {odd17 and17 : Option Addr} {sld17 : Array (Option Value)} {ocd17 kVd17 dcd17 pmd17 cdd17 ctd17 : Value}
    {odd18 and18 : Option Addr} {sld18 : Array (Option Value)} {ocd18 kVd18 dcd18 pmd18 cdd18 ctd18 : Value}
    {odd19 and19 : Option Addr} {sld19 : Array (Option Value)} {ocd19 kVd19 dcd19 pmd19 cdd19 ctd19 : Value}
    {odd20 and20 : Option Addr} {sld20 : Array (Option Value)} {ocd20 kVd20 dcd20 pmd20 cdd20 ctd20 : Value}
    {odd21 and21 : Option Addr} {sld21 : Array (Option Value)} {ocd21 kVd21 dcd21 pmd21 cdd21 ctd21 : Value}
    {odd22 and22 : Option Addr} {sld22 : Array (Option Value)} {ocd22 kVd22 dcd22 pmd22 cdd22 ctd22 : Value}
    {odd23 and23 : Option Addr} {sld23 : Array (Option Value)} {ocd23 kVd23 dcd23 pmd23 cdd23 ctd23 : Value}
    {odd24 and24 : Option Addr} {sld24 : Array (Option Value)} {ocd24 kVd24 dcd24 pmd24 cdd24 ctd24 : Value}
    {odd25 and25 : Option Addr} {sld25 : Array (Option Value)} {ocd25 kVd25 dcd25 pmd25 cdd25 ctd25 : Value}
    {odd26 and26 : Option Addr} {sld26 : Array (Option Value)} {ocd26 kVd26 dcd26 pmd26 cdd26 ctd26 : Value}
    {odd27 and27 : Option Addr} {sld27 : Array (Option Value)} {ocd27 kVd27 dcd27 pmd27 cdd27 ctd27 : Value}
    {odd28 and28 : Option Addr} {sld28 : Array (Option Value)} {ocd28 kVd28 dcd28 pmd28 cdd28 ctd28 : Value}
    {odm0 anm0 : Option Addr} {slm0 : Array (Option Value)} {ocm0 kVm0 dcm0 pmm0 cdm0 ctm0 : Value}
    {odm1 anm1 : Option Addr} {slm1 : Array (Option Value)} {ocm1 kVm1 dcm1 pmm1 cdm1 ctm1 : Value}
    {odm2 anm2 : Option Addr} {slm2 : Array (Option Value)} {ocm2 kVm2 dcm2 pmm2 cdm2 ctm2 : Value}
    {odm3 anm3 : Option Addr} {slm3 : Array (Option Value)} {ocm3 kVm3 dcm3 pmm3 cdm3 ctm3 : Value}
    {odm4 anm4 : Option Addr} {slm4 : Array (Option Value)} {ocm4 kVm4 dcm4 pmm4 cdm4 ctm4 : Value}
    {odm5 anm5 : Option Addr} {slm5 : Array (Option Value)} {ocm5 kVm5 dcm5 pmm5 cdm5 ctm5 : Value}
    {odm6 anm6 : Option Addr} {slm6 : Array (Option Value)} {ocm6 kVm6 dcm6 pmm6 cdm6 ctm6 : Value}
    {nmCT qCT : Str} {bsCT subCT : List Value} {snCT : List Str} {abCT : Bool} {colCT : Option Bool} {ddCT : Option Addr} {m0CT m1CT m2CT m3CT m5CT : Option Value}
    {odCT anCT cldCT cddCT : Option Addr} {slCT cslCT ccsCT : Array (Option Value)} {ocCT kVCT dcCT pmCT ctCT clCT cclCT : Value} {vsCT : Array Value} {fileCT : Str} {tfCT : Tok}
    {nmCTab qCTab : Str} {bsCTab subCTab : List Value} {snCTab : List Str} {abCTab : Bool} {colCTab : Option Bool} {ddCTab : Option Addr} {m0CTab m1CTab m2CTab m3CTab m5CTab : Option Value}
    {odCTab anCTab cldCTab cddCTab : Option Addr} {slCTab cslCTab ccsCTab : Array (Option Value)} {ocCTab kVCTab dcCTab pmCTab ctCTab clCTab cclCTab : Value} {vsCTab : Array Value} {fileCTab : Str} {tfCTab : Tok}
    {nmCB qCB : Str} {bsCB subCB : List Value} {snCB : List Str} {abCB : Bool} {colCB : Option Bool} {ddCB : Option Addr} {m0CB m1CB m2CB m3CB m5CB : Option Value}
    {odCB anCB cldCB cddCB : Option Addr} {slCB cslCB ccsCB : Array (Option Value)} {ocCB kVCB dcCB pmCB ctCB clCB cclCB : Value} {vsCB : Array Value} {fileCB : Str} {tfCB : Tok}
    {tLETTERS : Tok}
    {tFIGURES : Tok}
    {tBLANKS : Tok}
    {tSIGNS : Tok}
    {ddE : Option Addr} {nE : Nat} {slE : Array (Option Value)} {tE1 tE2 : Tok}
    (ad0 : PySem.W.nsIn K mainGlobals "is_word" = some (some (.ref fd0)))
    (ld0 : K.lookup fd0 = some ⟨ocd0, odd0, .func (PySem.W.fnOf "is_word" "is_word" (defArgs sIsWord) (defBody sIsWord) (defScope sIsWord) .none kVd0 dcd0 pmd0 and0 cdd0 ctd0), sld0⟩)
    (cd0 : PySem.W.codeIn K cdd0 "is_word" = true)
    (kd0 : PySem.W.keepIn K (.ref fd0) = true)
    (ad1 : PySem.W.nsIn K mainGlobals "run_end" = some (some (.ref fd1)))
    (ld1 : K.lookup fd1 = some ⟨ocd1, odd1, .func (PySem.W.fnOf "run_end" "run_end" (defArgs sRunEnd) (defBody sRunEnd) (defScope sRunEnd) .none kVd1 dcd1 pmd1 and1 cdd1 ctd1), sld1⟩)
    (cd1 : PySem.W.codeIn K cdd1 "run_end" = true)
    (kd1 : PySem.W.keepIn K (.ref fd1) = true)
    (ad2 : PySem.W.nsIn K mainGlobals "lexeme_at" = some (some (.ref fd2)))
    (ld2 : K.lookup fd2 = some ⟨ocd2, odd2, .func (PySem.W.fnOf "lexeme_at" "lexeme_at" (defArgs sLexAt) (defBody sLexAt) (defScope sLexAt) .none kVd2 dcd2 pmd2 and2 cdd2 ctd2), sld2⟩)
    (cd2 : PySem.W.codeIn K cdd2 "lexeme_at" = true)
    (kd2 : PySem.W.keepIn K (.ref fd2) = true)
    (ad3 : PySem.W.nsIn K mainGlobals "wrong_shape" = some (some (.ref fd3)))
    (ld3 : K.lookup fd3 = some ⟨ocd3, odd3, .func (PySem.W.fnOf "wrong_shape" "wrong_shape" (defArgs sWShape) (defBody sWShape) (defScope sWShape) .none kVd3 dcd3 pmd3 and3 cdd3 ctd3), sld3⟩)
    (cd3 : PySem.W.codeIn K cdd3 "wrong_shape" = true)
    (kd3 : PySem.W.keepIn K (.ref fd3) = true)
    (ad4 : PySem.W.nsIn K mainGlobals "size_of" = some (some (.ref fd4)))
    (ld4 : K.lookup fd4 = some ⟨ocd4, odd4, .func (PySem.W.fnOf "size_of" "size_of" (defArgs sSizeOf) (defBody sSizeOf) (defScope sSizeOf) .none kVd4 dcd4 pmd4 and4 cdd4 ctd4), sld4⟩)
    (cd4 : PySem.W.codeIn K cdd4 "size_of" = true)
    (kd4 : PySem.W.keepIn K (.ref fd4) = true)
    (ad5 : PySem.W.nsIn K mainGlobals "wrong_sizes" = some (some (.ref fd5)))
    (ld5 : K.lookup fd5 = some ⟨ocd5, odd5, .func (PySem.W.fnOf "wrong_sizes" "wrong_sizes" (defArgs sWSizes) (defBody sWSizes) (defScope sWSizes) .none kVd5 dcd5 pmd5 and5 cdd5 ctd5), sld5⟩)
    (cd5 : PySem.W.codeIn K cdd5 "wrong_sizes" = true)
    (kd5 : PySem.W.keepIn K (.ref fd5) = true)
    (ad6 : PySem.W.nsIn K mainGlobals "wrong_table" = some (some (.ref fd6)))
    (ld6 : K.lookup fd6 = some ⟨ocd6, odd6, .func (PySem.W.fnOf "wrong_table" "wrong_table" (defArgs sWTable) (defBody sWTable) (defScope sWTable) .none kVd6 dcd6 pmd6 and6 cdd6 ctd6), sld6⟩)
    (cd6 : PySem.W.codeIn K cdd6 "wrong_table" = true)
    (kd6 : PySem.W.keepIn K (.ref fd6) = true)
    (ad7 : PySem.W.nsIn K mainGlobals "wrong_member" = some (some (.ref fd7)))
    (ld7 : K.lookup fd7 = some ⟨ocd7, odd7, .func (PySem.W.fnOf "wrong_member" "wrong_member" (defArgs sWMember) (defBody sWMember) (defScope sWMember) .none kVd7 dcd7 pmd7 and7 cdd7 ctd7), sld7⟩)
    (cd7 : PySem.W.codeIn K cdd7 "wrong_member" = true)
    (kd7 : PySem.W.keepIn K (.ref fd7) = true)
    (ad8 : PySem.W.nsIn K mainGlobals "wrong_plan" = some (some (.ref fd8)))
    (ld8 : K.lookup fd8 = some ⟨ocd8, odd8, .func (PySem.W.fnOf "wrong_plan" "wrong_plan" (defArgs sWPlan) (defBody sWPlan) (defScope sWPlan) .none kVd8 dcd8 pmd8 and8 cdd8 ctd8), sld8⟩)
    (cd8 : PySem.W.codeIn K cdd8 "wrong_plan" = true)
    (kd8 : PySem.W.keepIn K (.ref fd8) = true)
    (ad9 : PySem.W.nsIn K mainGlobals "take_shape" = some (some (.ref fd9)))
    (ld9 : K.lookup fd9 = some ⟨ocd9, odd9, .func (PySem.W.fnOf "take_shape" "take_shape" (defArgs sShape) (defBody sShape) (defScope sShape) .none kVd9 dcd9 pmd9 and9 cdd9 ctd9), sld9⟩)
    (cd9 : PySem.W.codeIn K cdd9 "take_shape" = true)
    (kd9 : PySem.W.keepIn K (.ref fd9) = true)
    (ad10 : PySem.W.nsIn K mainGlobals "take_table" = some (some (.ref fd10)))
    (ld10 : K.lookup fd10 = some ⟨ocd10, odd10, .func (PySem.W.fnOf "take_table" "take_table" (defArgs sTable) (defBody sTable) (defScope sTable) .none kVd10 dcd10 pmd10 and10 cdd10 ctd10), sld10⟩)
    (cd10 : PySem.W.codeIn K cdd10 "take_table" = true)
    (kd10 : PySem.W.keepIn K (.ref fd10) = true)
    (ad11 : PySem.W.nsIn K mainGlobals "take_end" = some (some (.ref fd11)))
    (ld11 : K.lookup fd11 = some ⟨ocd11, odd11, .func (PySem.W.fnOf "take_end" "take_end" (defArgs sEnd) (defBody sEnd) (defScope sEnd) .none kVd11 dcd11 pmd11 and11 cdd11 ctd11), sld11⟩)
    (cd11 : PySem.W.codeIn K cdd11 "take_end" = true)
    (kd11 : PySem.W.keepIn K (.ref fd11) = true)
    (ad12 : PySem.W.nsIn K mainGlobals "read_shape" = some (some (.ref fd12)))
    (ld12 : K.lookup fd12 = some ⟨ocd12, odd12, .func (PySem.W.fnOf "read_shape" "read_shape" (defArgs sRShape) (defBody sRShape) (defScope sRShape) .none kVd12 dcd12 pmd12 and12 cdd12 ctd12), sld12⟩)
    (cd12 : PySem.W.codeIn K cdd12 "read_shape" = true)
    (kd12 : PySem.W.keepIn K (.ref fd12) = true)
    (ad13 : PySem.W.nsIn K mainGlobals "read_table" = some (some (.ref fd13)))
    (ld13 : K.lookup fd13 = some ⟨ocd13, odd13, .func (PySem.W.fnOf "read_table" "read_table" (defArgs sRTable) (defBody sRTable) (defScope sRTable) .none kVd13 dcd13 pmd13 and13 cdd13 ctd13), sld13⟩)
    (cd13 : PySem.W.codeIn K cdd13 "read_table" = true)
    (kd13 : PySem.W.keepIn K (.ref fd13) = true)
    (ad14 : PySem.W.nsIn K mainGlobals "read_plan" = some (some (.ref fd14)))
    (ld14 : K.lookup fd14 = some ⟨ocd14, odd14, .func (PySem.W.fnOf "read_plan" "read_plan" (defArgs sRPlan) (defBody sRPlan) (defScope sRPlan) .none kVd14 dcd14 pmd14 and14 cdd14 ctd14), sld14⟩)
    (cd14 : PySem.W.codeIn K cdd14 "read_plan" = true)
    (kd14 : PySem.W.keepIn K (.ref fd14) = true)
    (ad15 : PySem.W.nsIn K mainGlobals "_law_source" = some (some (.ref fd15)))
    (ld15 : K.lookup fd15 = some ⟨ocd15, odd15, .func (PySem.W.fnOf "_law_source" "_law_source" (defArgs sSource) (defBody sSource) (defScope sSource) .none kVd15 dcd15 pmd15 and15 cdd15 ctd15), sld15⟩)
    (cd15 : PySem.W.codeIn K cdd15 "_law_source" = true)
    (kd15 : PySem.W.keepIn K (.ref fd15) = true)
    (ad16 : PySem.W.nsIn K mainGlobals "_law_pick" = some (some (.ref fd16)))
    (ld16 : K.lookup fd16 = some ⟨ocd16, odd16, .func (PySem.W.fnOf "_law_pick" "_law_pick" (defArgs sPick) (defBody sPick) (defScope sPick) .none kVd16 dcd16 pmd16 and16 cdd16 ctd16), sld16⟩)
    (cd16 : PySem.W.codeIn K cdd16 "_law_pick" = true)
    (kd16 : PySem.W.keepIn K (.ref fd16) = true)
    (ad17 : PySem.W.nsIn K mainGlobals "_law_of" = some (some (.ref fd17)))
    (ld17 : K.lookup fd17 = some ⟨ocd17, odd17, .func (PySem.W.fnOf "_law_of" "_law_of" (defArgs sOf) (defBody sOf) (defScope sOf) .none kVd17 dcd17 pmd17 and17 cdd17 ctd17), sld17⟩)
    (cd17 : PySem.W.codeIn K cdd17 "_law_of" = true)
    (kd17 : PySem.W.keepIn K (.ref fd17) = true)
    (ad18 : PySem.W.nsIn K mainGlobals "_law_lexeme" = some (some (.ref fd18)))
    (ld18 : K.lookup fd18 = some ⟨ocd18, odd18, .func (PySem.W.fnOf "_law_lexeme" "_law_lexeme" (defArgs sLLex) (defBody sLLex) (defScope sLLex) .none kVd18 dcd18 pmd18 and18 cdd18 ctd18), sld18⟩)
    (cd18 : PySem.W.codeIn K cdd18 "_law_lexeme" = true)
    (kd18 : PySem.W.keepIn K (.ref fd18) = true)
    (ad19 : PySem.W.nsIn K mainGlobals "_law_run" = some (some (.ref fd19)))
    (ld19 : K.lookup fd19 = some ⟨ocd19, odd19, .func (PySem.W.fnOf "_law_run" "_law_run" (defArgs sLRun) (defBody sLRun) (defScope sLRun) .none kVd19 dcd19 pmd19 and19 cdd19 ctd19), sld19⟩)
    (cd19 : PySem.W.codeIn K cdd19 "_law_run" = true)
    (kd19 : PySem.W.keepIn K (.ref fd19) = true)
    (ad20 : PySem.W.nsIn K mainGlobals "_law_is_word" = some (some (.ref fd20)))
    (ld20 : K.lookup fd20 = some ⟨ocd20, odd20, .func (PySem.W.fnOf "_law_is_word" "_law_is_word" (defArgs sLWord) (defBody sLWord) (defScope sLWord) .none kVd20 dcd20 pmd20 and20 cdd20 ctd20), sld20⟩)
    (cd20 : PySem.W.codeIn K cdd20 "_law_is_word" = true)
    (kd20 : PySem.W.keepIn K (.ref fd20) = true)
    (ad21 : PySem.W.nsIn K mainGlobals "_law_wrong_place" = some (some (.ref fd21)))
    (ld21 : K.lookup fd21 = some ⟨ocd21, odd21, .func (PySem.W.fnOf "_law_wrong_place" "_law_wrong_place" (defArgs sWrong) (defBody sWrong) (defScope sWrong) .none kVd21 dcd21 pmd21 and21 cdd21 ctd21), sld21⟩)
    (cd21 : PySem.W.codeIn K cdd21 "_law_wrong_place" = true)
    (kd21 : PySem.W.keepIn K (.ref fd21) = true)
    (ad22 : PySem.W.nsIn K mainGlobals "_law_spaced" = some (some (.ref fd22)))
    (ld22 : K.lookup fd22 = some ⟨ocd22, odd22, .func (PySem.W.fnOf "_law_spaced" "_law_spaced" (defArgs sSpaced) (defBody sSpaced) (defScope sSpaced) .none kVd22 dcd22 pmd22 and22 cdd22 ctd22), sld22⟩)
    (cd22 : PySem.W.codeIn K cdd22 "_law_spaced" = true)
    (kd22 : PySem.W.keepIn K (.ref fd22) = true)
    (ad23 : PySem.W.nsIn K mainGlobals "_law_rules" = some (some (.ref fd23)))
    (ld23 : K.lookup fd23 = some ⟨ocd23, odd23, .func (PySem.W.fnOf "_law_rules" "_law_rules" (defArgs sRules) (defBody sRules) (defScope sRules) .none kVd23 dcd23 pmd23 and23 cdd23 ctd23), sld23⟩)
    (cd23 : PySem.W.codeIn K cdd23 "_law_rules" = true)
    (kd23 : PySem.W.keepIn K (.ref fd23) = true)
    (ad24 : PySem.W.nsIn K mainGlobals "_law_drawn_signs" = some (some (.ref fd24)))
    (ld24 : K.lookup fd24 = some ⟨ocd24, odd24, .func (PySem.W.fnOf "_law_drawn_signs" "_law_drawn_signs" (defArgs sDrawn) (defBody sDrawn) (defScope sDrawn) .none kVd24 dcd24 pmd24 and24 cdd24 ctd24), sld24⟩)
    (cd24 : PySem.W.codeIn K cdd24 "_law_drawn_signs" = true)
    (kd24 : PySem.W.keepIn K (.ref fd24) = true)
    (ad25 : PySem.W.nsIn K mainGlobals "_law_spoilt_signs" = some (some (.ref fd25)))
    (ld25 : K.lookup fd25 = some ⟨ocd25, odd25, .func (PySem.W.fnOf "_law_spoilt_signs" "_law_spoilt_signs" (defArgs sSpoilt) (defBody sSpoilt) (defScope sSpoilt) .none kVd25 dcd25 pmd25 and25 cdd25 ctd25), sld25⟩)
    (cd25 : PySem.W.codeIn K cdd25 "_law_spoilt_signs" = true)
    (kd25 : PySem.W.keepIn K (.ref fd25) = true)
    (ad26 : PySem.W.nsIn K mainGlobals "_law_told" = some (some (.ref fd26)))
    (ld26 : K.lookup fd26 = some ⟨ocd26, odd26, .func (PySem.W.fnOf "_law_told" "_law_told" (defArgs sTold) (defBody sTold) (defScope sTold) .none kVd26 dcd26 pmd26 and26 cdd26 ctd26), sld26⟩)
    (cd26 : PySem.W.codeIn K cdd26 "_law_told" = true)
    (kd26 : PySem.W.keepIn K (.ref fd26) = true)
    (ad27 : PySem.W.nsIn K mainGlobals "_law_hand_right" = some (some (.ref fd27)))
    (ld27 : K.lookup fd27 = some ⟨ocd27, odd27, .func (PySem.W.fnOf "_law_hand_right" "_law_hand_right" (defArgs sHand) (defBody sHand) (defScope sHand) .none kVd27 dcd27 pmd27 and27 cdd27 ctd27), sld27⟩)
    (cd27 : PySem.W.codeIn K cdd27 "_law_hand_right" = true)
    (kd27 : PySem.W.keepIn K (.ref fd27) = true)
    (ad28 : PySem.W.nsIn K mainGlobals "law" = some (some (.ref fd28)))
    (ld28 : K.lookup fd28 = some ⟨ocd28, odd28, .func (PySem.W.fnOf "law" "law" (defArgs sLaw) (defBody sLaw) (defScope sLaw) .none kVd28 dcd28 pmd28 and28 cdd28 ctd28), sld28⟩)
    (cd28 : PySem.W.codeIn K cdd28 "law" = true)
    (kd28 : PySem.W.keepIn K (.ref fd28) = true)
    (aCL : PySem.W.nsIn K mainGlobals "Lexer" = some (some (.ref CL)))
    (pgCL : PySem.W.plainGet K CL Str.empty = true)
    (hdCL : PySem.W.hasDictIn K CL = true)
    (poCL : PySem.W.plainOver K CL = true)
    (saCL : PySem.W.findIn K (.ref CL) "__setattr__" = some (some (.builtin "object.__setattr__")))
    (mkCL : PySem.W.makesIn K CL = true)
    (kcCL : PySem.W.keepIn K (.ref CL) = true)
    (aCP : PySem.W.nsIn K mainGlobals "Plan" = some (some (.ref CP)))
    (pgCP : PySem.W.plainGet K CP Str.empty = true)
    (hdCP : PySem.W.hasDictIn K CP = true)
    (poCP : PySem.W.plainOver K CP = true)
    (saCP : PySem.W.findIn K (.ref CP) "__setattr__" = some (some (.builtin "object.__setattr__")))
    (mkCP : PySem.W.makesIn K CP = true)
    (kcCP : PySem.W.keepIn K (.ref CP) = true)
    (nCLtext : PySem.W.findIn K (.ref CL) "text" = some none)
    (nCLnow : PySem.W.findIn K (.ref CL) "now" = some none)
    (nCPown_tables : PySem.W.findIn K (.ref CP) "own_tables" = some none)
    (nCPown_end : PySem.W.findIn K (.ref CP) "own_end" = some none)
    (am0 : PySem.W.findIn K (.ref CL) "__init__" = some (some (.ref fm0)))
    (im0 : PySem.W.isFn K (.ref fm0) = true)
    (lm0 : K.lookup fm0 = some ⟨ocm0, odm0, .func (PySem.W.fnOf "__init__" "Lexer.__init__" (defArgs sLI) (defBody sLI) (defScope sLI) .none kVm0 dcm0 pmm0 anm0 cdm0 ctm0), slm0⟩)
    (cm0 : PySem.W.codeIn K cdm0 "Lexer.__init__" = true)
    (km0 : PySem.W.keepIn K (.ref fm0) = true)
    (am1 : PySem.W.findIn K (.ref CL) "is_next" = some (some (.ref fm1)))
    (im1 : PySem.W.isFn K (.ref fm1) = true)
    (lm1 : K.lookup fm1 = some ⟨ocm1, odm1, .func (PySem.W.fnOf "is_next" "Lexer.is_next" (defArgs sIsNext) (defBody sIsNext) (defScope sIsNext) .none kVm1 dcm1 pmm1 anm1 cdm1 ctm1), slm1⟩)
    (cm1 : PySem.W.codeIn K cdm1 "Lexer.is_next" = true)
    (km1 : PySem.W.keepIn K (.ref fm1) = true)
    (am2 : PySem.W.findIn K (.ref CL) "go" = some (some (.ref fm2)))
    (im2 : PySem.W.isFn K (.ref fm2) = true)
    (lm2 : K.lookup fm2 = some ⟨ocm2, odm2, .func (PySem.W.fnOf "go" "Lexer.go" (defArgs sGo) (defBody sGo) (defScope sGo) .none kVm2 dcm2 pmm2 anm2 cdm2 ctm2), slm2⟩)
    (cm2 : PySem.W.codeIn K cdm2 "Lexer.go" = true)
    (km2 : PySem.W.keepIn K (.ref fm2) = true)
    (am3 : PySem.W.findIn K (.ref CL) "need" = some (some (.ref fm3)))
    (im3 : PySem.W.isFn K (.ref fm3) = true)
    (lm3 : K.lookup fm3 = some ⟨ocm3, odm3, .func (PySem.W.fnOf "need" "Lexer.need" (defArgs sNeed) (defBody sNeed) (defScope sNeed) .none kVm3 dcm3 pmm3 anm3 cdm3 ctm3), slm3⟩)
    (cm3 : PySem.W.codeIn K cdm3 "Lexer.need" = true)
    (km3 : PySem.W.keepIn K (.ref fm3) = true)
    (am4 : PySem.W.findIn K (.ref CL) "take" = some (some (.ref fm4)))
    (im4 : PySem.W.isFn K (.ref fm4) = true)
    (lm4 : K.lookup fm4 = some ⟨ocm4, odm4, .func (PySem.W.fnOf "take" "Lexer.take" (defArgs sTake) (defBody sTake) (defScope sTake) .none kVm4 dcm4 pmm4 anm4 cdm4 ctm4), slm4⟩)
    (cm4 : PySem.W.codeIn K cdm4 "Lexer.take" = true)
    (km4 : PySem.W.keepIn K (.ref fm4) = true)
    (am5 : PySem.W.findIn K (.ref CL) "finish" = some (some (.ref fm5)))
    (im5 : PySem.W.isFn K (.ref fm5) = true)
    (lm5 : K.lookup fm5 = some ⟨ocm5, odm5, .func (PySem.W.fnOf "finish" "Lexer.finish" (defArgs sFinish) (defBody sFinish) (defScope sFinish) .none kVm5 dcm5 pmm5 anm5 cdm5 ctm5), slm5⟩)
    (cm5 : PySem.W.codeIn K cdm5 "Lexer.finish" = true)
    (km5 : PySem.W.keepIn K (.ref fm5) = true)
    (am6 : PySem.W.findIn K (.ref CP) "__init__" = some (some (.ref fm6)))
    (im6 : PySem.W.isFn K (.ref fm6) = true)
    (lm6 : K.lookup fm6 = some ⟨ocm6, odm6, .func (PySem.W.fnOf "__init__" "Plan.__init__" (defArgs sPlanI) (defBody sPlanI) (defScope sPlanI) .none kVm6 dcm6 pmm6 anm6 cdm6 ctm6), slm6⟩)
    (cm6 : PySem.W.codeIn K cdm6 "Plan.__init__" = true)
    (km6 : PySem.W.keepIn K (.ref fm6) = true)
    (aCT : PySem.W.nsIn K mainGlobals "BadText" = some (some (.ref CT)))
    (xLCT : K.lookup CT = some (excClassObj nmCT qCT CT NCT bsCT [.ref baseCT, .type "ValueError", .type "Exception", .type "BaseException", .type "object"] true snCT subCT abCT colCT ddCT m0CT m1CT m2CT m3CT m5CT "ValueError.__new__"))
    (saCT : PySem.W.findIn K (.ref CT) "__setattr__" = some (some (.builtin "object.__setattr__")))
    (noCT : PySem.W.findIn K (.ref CT) "place" = some none)
    (iCCT : PySem.W.findIn K (.ref CT) "__init__" = some (some (.ref fICT)))
    (tCCT : PySem.W.typeIn K (.ref fICT) = some (.type "function"))
    (kCCT : PySem.W.keepIn K (.ref CT) = true)
    (exCT : PySem.W.subIn K (.ref CT) (.type "BaseException") = some true)
    (veCT : PySem.W.subIn K (.ref CT) (.type "ValueError") = some true)
    (tyCT : PySem.W.typeIn K (.ref CT) = some (.type "type"))
    (suCT : PySem.W.ks_superIn K CT CT "__init__" = some (some (.builtin "ValueError.__init__")))
    (slfCT : PySem.W.mroIn K CT (.ref CT) = some true)
    (lFCT : K.lookup fICT = some ⟨ocCT, odCT, .func (PySem.W.ksFn "__init__" "BadText.__init__" (defArgs sTextI) (defBody sTextI) (defScope sTextI) .none kVCT dcCT pmCT anCT (.ref cdaCT) ctCT ccCT), slCT⟩)
    (coCT : PySem.W.codeIn K (.ref cdaCT) "BadText.__init__" = true)
    (ceCT : K.lookup ccCT = some ⟨clCT, cldCT, .cell (some (.ref CT)), cslCT⟩)
    (cvCT : K.lookup cdaCT = some ⟨cclCT, cddCT, .fields vsCT, ccsCT⟩)
    (cfCT : vsCT[2]? = some (.str fileCT tfCT))
    (cgCT : ((PP.main.file : Str) == fileCT) = true)
    (hxCT : PySem.W.hasDictIn K CT = true)
    (aCTab : PySem.W.nsIn K mainGlobals "BadTable" = some (some (.ref CTab)))
    (xLCTab : K.lookup CTab = some (excClassObj nmCTab qCTab CTab NCTab bsCTab [.ref baseCTab, .type "ValueError", .type "Exception", .type "BaseException", .type "object"] true snCTab subCTab abCTab colCTab ddCTab m0CTab m1CTab m2CTab m3CTab m5CTab "ValueError.__new__"))
    (saCTab : PySem.W.findIn K (.ref CTab) "__setattr__" = some (some (.builtin "object.__setattr__")))
    (noCTab : PySem.W.findIn K (.ref CTab) "path" = some none)
    (iCCTab : PySem.W.findIn K (.ref CTab) "__init__" = some (some (.ref fICTab)))
    (tCCTab : PySem.W.typeIn K (.ref fICTab) = some (.type "function"))
    (kCCTab : PySem.W.keepIn K (.ref CTab) = true)
    (exCTab : PySem.W.subIn K (.ref CTab) (.type "BaseException") = some true)
    (veCTab : PySem.W.subIn K (.ref CTab) (.type "ValueError") = some true)
    (tyCTab : PySem.W.typeIn K (.ref CTab) = some (.type "type"))
    (suCTab : PySem.W.ks_superIn K CTab CTab "__init__" = some (some (.builtin "ValueError.__init__")))
    (slfCTab : PySem.W.mroIn K CTab (.ref CTab) = some true)
    (lFCTab : K.lookup fICTab = some ⟨ocCTab, odCTab, .func (PySem.W.ksFn "__init__" "BadTable.__init__" (defArgs sTabI) (defBody sTabI) (defScope sTabI) .none kVCTab dcCTab pmCTab anCTab (.ref cdaCTab) ctCTab ccCTab), slCTab⟩)
    (coCTab : PySem.W.codeIn K (.ref cdaCTab) "BadTable.__init__" = true)
    (ceCTab : K.lookup ccCTab = some ⟨clCTab, cldCTab, .cell (some (.ref CTab)), cslCTab⟩)
    (cvCTab : K.lookup cdaCTab = some ⟨cclCTab, cddCTab, .fields vsCTab, ccsCTab⟩)
    (cfCTab : vsCTab[2]? = some (.str fileCTab tfCTab))
    (cgCTab : ((PP.main.file : Str) == fileCTab) = true)
    (hxCTab : PySem.W.hasDictIn K CTab = true)
    (aCB : PySem.W.nsIn K mainGlobals "BadPlan" = some (some (.ref CB)))
    (xLCB : K.lookup CB = some (excClassObj nmCB qCB CB NCB bsCB [.ref baseCB, .type "ValueError", .type "Exception", .type "BaseException", .type "object"] true snCB subCB abCB colCB ddCB m0CB m1CB m2CB m3CB m5CB "ValueError.__new__"))
    (saCB : PySem.W.findIn K (.ref CB) "__setattr__" = some (some (.builtin "object.__setattr__")))
    (noCB : PySem.W.findIn K (.ref CB) "path" = some none)
    (iCCB : PySem.W.findIn K (.ref CB) "__init__" = some (some (.ref fICB)))
    (tCCB : PySem.W.typeIn K (.ref fICB) = some (.type "function"))
    (kCCB : PySem.W.keepIn K (.ref CB) = true)
    (exCB : PySem.W.subIn K (.ref CB) (.type "BaseException") = some true)
    (veCB : PySem.W.subIn K (.ref CB) (.type "ValueError") = some true)
    (tyCB : PySem.W.typeIn K (.ref CB) = some (.type "type"))
    (suCB : PySem.W.ks_superIn K CB CB "__init__" = some (some (.builtin "ValueError.__init__")))
    (slfCB : PySem.W.mroIn K CB (.ref CB) = some true)
    (lFCB : K.lookup fICB = some ⟨ocCB, odCB, .func (PySem.W.ksFn "__init__" "BadPlan.__init__" (defArgs sPlanErrI) (defBody sPlanErrI) (defScope sPlanErrI) .none kVCB dcCB pmCB anCB (.ref cdaCB) ctCB ccCB), slCB⟩)
    (coCB : PySem.W.codeIn K (.ref cdaCB) "BadPlan.__init__" = true)
    (ceCB : K.lookup ccCB = some ⟨clCB, cldCB, .cell (some (.ref CB)), cslCB⟩)
    (cvCB : K.lookup cdaCB = some ⟨cclCB, cddCB, .fields vsCB, ccsCB⟩)
    (cfCB : vsCB[2]? = some (.str fileCB tfCB))
    (cgCB : ((PP.main.file : Str) == fileCB) = true)
    (hxCB : PySem.W.hasDictIn K CB = true)
    (gaCT : PySem.W.findIn K (.ref CT) "__getattribute__" = some (some (.builtin "BaseException.__getattribute__")))
    (ggCT : PySem.W.findIn K (.ref CT) "__getattr__" = some none)
    (sCTCT : PySem.W.subIn K (.ref CT) (.ref CT) = some true)
    (sCTabCT : PySem.W.subIn K (.ref CTab) (.ref CT) = some false)
    (sCBCT : PySem.W.subIn K (.ref CB) (.ref CT) = some false)
    (sCTabCB : PySem.W.subIn K (.ref CTab) (.ref CB) = some false)
    (sCTabCTab : PySem.W.subIn K (.ref CTab) (.ref CTab) = some true)
    (sCBCB : PySem.W.subIn K (.ref CB) (.ref CB) = some true)
    (sCBCTab : PySem.W.subIn K (.ref CB) (.ref CTab) = some false)
    (opq : PySem.W.nsIn K PySem.cStatics "thirdparty.any" = some none)
    (zsuper : PySem.W.nsIn K mainGlobals "super" = some none)
    (zlen : PySem.W.nsIn K mainGlobals "len" = some none)
    (zisinstance : PySem.W.nsIn K mainGlobals "isinstance" = some none)
    (zrange : PySem.W.nsIn K mainGlobals "range" = some none)
    (zall : PySem.W.nsIn K mainGlobals "all" = some none)
    (zenumerate : PySem.W.nsIn K mainGlobals "enumerate" = some none)
    (ztuple : PySem.W.nsIn K mainGlobals "tuple" = some none)
    (zlist : PySem.W.nsIn K mainGlobals "list" = some none)
    (zstr : PySem.W.nsIn K mainGlobals "str" = some none)
    (zint : PySem.W.nsIn K mainGlobals "int" = some none)
    (zmax : PySem.W.nsIn K mainGlobals "max" = some none)
    (zrepr : PySem.W.nsIn K mainGlobals "repr" = some none)
    (zsorted : PySem.W.nsIn K mainGlobals "sorted" = some none)
    (zabs : PySem.W.nsIn K mainGlobals "abs" = some none)
    (gLETTERS : PySem.W.nsIn K mainGlobals "LETTERS" = some (some (.str "abcdefghijklmnopqrstuvwxyz" tLETTERS)))
    (gFIGURES : PySem.W.nsIn K mainGlobals "FIGURES" = some (some (.str "0123456789" tFIGURES)))
    (gBLANKS : PySem.W.nsIn K mainGlobals "BLANKS" = some (some (.str " \n" tBLANKS)))
    (gSIGNS : PySem.W.nsIn K mainGlobals "SIGNS" = some (some (.str "(){},;" tSIGNS)))
    (gE : PySem.W.nsIn K mainGlobals "ENDS" = some (some (.ref aE)))
    (lE : K.lookup aE = some ⟨.type "tuple", ddE, .seq #[.str "left" tE1, .str "right" tE2] nE, slE⟩) :
    ∃ fd : FuncData, (∀ (s : Shared) (v : Value), BindsTo s fd ⟨[v], []⟩ [("_law_script", v)]) ∧ ∀ base : Heap, K.In base → base.Ns mainGlobals mg → FnG PP w K mg base CX0 74 fa fd ["_law_script"] (spLaw K) := by
  have e := hfa.symm.trans (PySem.W.mg_of X G ad28)
  cases e
  have Nd0 : Fn K mg "is_word" sIsWord fd0 _ ["value"] := ⟨fun_mk ld0 cd0 kd0, PySem.W.mg_of X G ad0, (fun_mk (st := sIsWord) ld0 cd0 kd0).binds (ps := ["value"]) (fun _ _ _ _ _ _ us hl => match us, hl with | [_], _ => rfl)⟩
  have Nd1 : Fn K mg "run_end" sRunEnd fd1 _ ["text", "place", "signs"] := ⟨fun_mk ld1 cd1 kd1, PySem.W.mg_of X G ad1, (fun_mk (st := sRunEnd) ld1 cd1 kd1).binds (ps := ["text", "place", "signs"]) (fun _ _ _ _ _ _ us hl => match us, hl with | [_, _, _], _ => rfl)⟩
  have Nd2 : Fn K mg "lexeme_at" sLexAt fd2 _ ["text", "place"] := ⟨fun_mk ld2 cd2 kd2, PySem.W.mg_of X G ad2, (fun_mk (st := sLexAt) ld2 cd2 kd2).binds (ps := ["text", "place"]) (fun _ _ _ _ _ _ us hl => match us, hl with | [_, _], _ => rfl)⟩
  have Nd3 : Fn K mg "wrong_shape" sWShape fd3 _ ["value"] := ⟨fun_mk ld3 cd3 kd3, PySem.W.mg_of X G ad3, (fun_mk (st := sWShape) ld3 cd3 kd3).binds (ps := ["value"]) (fun _ _ _ _ _ _ us hl => match us, hl with | [_], _ => rfl)⟩
  have Nd4 : Fn K mg "size_of" sSizeOf fd4 _ ["shape"] := ⟨fun_mk ld4 cd4 kd4, PySem.W.mg_of X G ad4, (fun_mk (st := sSizeOf) ld4 cd4 kd4).binds (ps := ["shape"]) (fun _ _ _ _ _ _ us hl => match us, hl with | [_], _ => rfl)⟩
  have Nd5 : Fn K mg "wrong_sizes" sWSizes fd5 _ ["shapes"] := ⟨fun_mk ld5 cd5 kd5, PySem.W.mg_of X G ad5, (fun_mk (st := sWSizes) ld5 cd5 kd5).binds (ps := ["shapes"]) (fun _ _ _ _ _ _ us hl => match us, hl with | [_], _ => rfl)⟩
  have Nd6 : Fn K mg "wrong_table" sWTable fd6 _ ["value"] := ⟨fun_mk ld6 cd6 kd6, PySem.W.mg_of X G ad6, (fun_mk (st := sWTable) ld6 cd6 kd6).binds (ps := ["value"]) (fun _ _ _ _ _ _ us hl => match us, hl with | [_], _ => rfl)⟩
  have Nd7 : Fn K mg "wrong_member" sWMember fd7 _ ["tables"] := ⟨fun_mk ld7 cd7 kd7, PySem.W.mg_of X G ad7, (fun_mk (st := sWMember) ld7 cd7 kd7).binds (ps := ["tables"]) (fun _ _ _ _ _ _ us hl => match us, hl with | [_], _ => rfl)⟩
  have Nd8 : Fn K mg "wrong_plan" sWPlan fd8 _ ["tables", "end"] := ⟨fun_mk ld8 cd8 kd8, PySem.W.mg_of X G ad8, (fun_mk (st := sWPlan) ld8 cd8 kd8).binds (ps := ["tables", "end"]) (fun _ _ _ _ _ _ us hl => match us, hl with | [_, _], _ => rfl)⟩
  have Nd9 : Fn K mg "take_shape" sShape fd9 _ ["lexer"] := ⟨fun_mk ld9 cd9 kd9, PySem.W.mg_of X G ad9, (fun_mk (st := sShape) ld9 cd9 kd9).binds (ps := ["lexer"]) (fun _ _ _ _ _ _ us hl => match us, hl with | [_], _ => rfl)⟩
  have Nd10 : Fn K mg "take_table" sTable fd10 _ ["lexer"] := ⟨fun_mk ld10 cd10 kd10, PySem.W.mg_of X G ad10, (fun_mk (st := sTable) ld10 cd10 kd10).binds (ps := ["lexer"]) (fun _ _ _ _ _ _ us hl => match us, hl with | [_], _ => rfl)⟩
  have Nd11 : Fn K mg "take_end" sEnd fd11 _ ["lexer"] := ⟨fun_mk ld11 cd11 kd11, PySem.W.mg_of X G ad11, (fun_mk (st := sEnd) ld11 cd11 kd11).binds (ps := ["lexer"]) (fun _ _ _ _ _ _ us hl => match us, hl with | [_], _ => rfl)⟩
  have Nd12 : Fn K mg "read_shape" sRShape fd12 _ ["text"] := ⟨fun_mk ld12 cd12 kd12, PySem.W.mg_of X G ad12, (fun_mk (st := sRShape) ld12 cd12 kd12).binds (ps := ["text"]) (fun _ _ _ _ _ _ us hl => match us, hl with | [_], _ => rfl)⟩
  have Nd13 : Fn K mg "read_table" sRTable fd13 _ ["text"] := ⟨fun_mk ld13 cd13 kd13, PySem.W.mg_of X G ad13, (fun_mk (st := sRTable) ld13 cd13 kd13).binds (ps := ["text"]) (fun _ _ _ _ _ _ us hl => match us, hl with | [_], _ => rfl)⟩
  have Nd14 : Fn K mg "read_plan" sRPlan fd14 _ ["text"] := ⟨fun_mk ld14 cd14 kd14, PySem.W.mg_of X G ad14, (fun_mk (st := sRPlan) ld14 cd14 kd14).binds (ps := ["text"]) (fun _ _ _ _ _ _ us hl => match us, hl with | [_], _ => rfl)⟩
  have Nd15 : Fn K mg "_law_source" sSource fd15 _ ["_law_script"] := ⟨fun_mk ld15 cd15 kd15, PySem.W.mg_of X G ad15, (fun_mk (st := sSource) ld15 cd15 kd15).binds (ps := ["_law_script"]) (fun _ _ _ _ _ _ us hl => match us, hl with | [_], _ => rfl)⟩
  have Nd16 : Fn K mg "_law_pick" sPick fd16 _ ["_law_source_here", "_law_many"] := ⟨fun_mk ld16 cd16 kd16, PySem.W.mg_of X G ad16, (fun_mk (st := sPick) ld16 cd16 kd16).binds (ps := ["_law_source_here", "_law_many"]) (fun _ _ _ _ _ _ us hl => match us, hl with | [_, _], _ => rfl)⟩
  have Nd17 : Fn K mg "_law_of" sOf fd17 _ ["_law_source_here", "_law_some"] := ⟨fun_mk ld17 cd17 kd17, PySem.W.mg_of X G ad17, (fun_mk (st := sOf) ld17 cd17 kd17).binds (ps := ["_law_source_here", "_law_some"]) (fun _ _ _ _ _ _ us hl => match us, hl with | [_, _], _ => rfl)⟩
  have Nd18 : Fn K mg "_law_lexeme" sLLex fd18 _ ["_law_text", "_law_place"] := ⟨fun_mk ld18 cd18 kd18, PySem.W.mg_of X G ad18, (fun_mk (st := sLLex) ld18 cd18 kd18).binds (ps := ["_law_text", "_law_place"]) (fun _ _ _ _ _ _ us hl => match us, hl with | [_, _], _ => rfl)⟩
  have Nd19 : Fn K mg "_law_run" sLRun fd19 _ ["_law_text", "_law_place", "_law_signs"] := ⟨fun_mk ld19 cd19 kd19, PySem.W.mg_of X G ad19, (fun_mk (st := sLRun) ld19 cd19 kd19).binds (ps := ["_law_text", "_law_place", "_law_signs"]) (fun _ _ _ _ _ _ us hl => match us, hl with | [_, _, _], _ => rfl)⟩
  have Nd20 : Fn K mg "_law_is_word" sLWord fd20 _ ["_law_value"] := ⟨fun_mk ld20 cd20 kd20, PySem.W.mg_of X G ad20, (fun_mk (st := sLWord) ld20 cd20 kd20).binds (ps := ["_law_value"]) (fun _ _ _ _ _ _ us hl => match us, hl with | [_], _ => rfl)⟩
  have Nd21 : Fn K mg "_law_wrong_place" sWrong fd21 _ ["_law_rules_here", "_law_text", "_law_form"] := ⟨fun_mk ld21 cd21 kd21, PySem.W.mg_of X G ad21, (fun_mk (st := sWrong) ld21 cd21 kd21).binds (ps := ["_law_rules_here", "_law_text", "_law_form"]) (fun _ _ _ _ _ _ us hl => match us, hl with | [_, _, _], _ => rfl)⟩
  have Nd22 : Fn K mg "_law_spaced" sSpaced fd22 _ ["_law_source_here", "_law_signs"] := ⟨fun_mk ld22 cd22 kd22, PySem.W.mg_of X G ad22, (fun_mk (st := sSpaced) ld22 cd22 kd22).binds (ps := ["_law_source_here", "_law_signs"]) (fun _ _ _ _ _ _ us hl => match us, hl with | [_, _], _ => rfl)⟩
  have Nd23 : Fn K mg "_law_rules" sRules fd23 _ [] := ⟨fun_mk ld23 cd23 kd23, PySem.W.mg_of X G ad23, (fun_mk (st := sRules) ld23 cd23 kd23).binds (ps := []) (fun _ _ _ _ _ _ us hl => match us, hl with | [], _ => rfl)⟩
  have Nd24 : Fn K mg "_law_drawn_signs" sDrawn fd24 _ ["_law_source_here", "_law_rules_here", "_law_form"] := ⟨fun_mk ld24 cd24 kd24, PySem.W.mg_of X G ad24, (fun_mk (st := sDrawn) ld24 cd24 kd24).binds (ps := ["_law_source_here", "_law_rules_here", "_law_form"]) (fun _ _ _ _ _ _ us hl => match us, hl with | [_, _, _], _ => rfl)⟩
  have Nd25 : Fn K mg "_law_spoilt_signs" sSpoilt fd25 _ ["_law_source_here", "_law_signs"] := ⟨fun_mk ld25 cd25 kd25, PySem.W.mg_of X G ad25, (fun_mk (st := sSpoilt) ld25 cd25 kd25).binds (ps := ["_law_source_here", "_law_signs"]) (fun _ _ _ _ _ _ us hl => match us, hl with | [_, _], _ => rfl)⟩
  have Nd26 : Fn K mg "_law_told" sTold fd26 _ ["_law_form", "_law_text"] := ⟨fun_mk ld26 cd26 kd26, PySem.W.mg_of X G ad26, (fun_mk (st := sTold) ld26 cd26 kd26).binds (ps := ["_law_form", "_law_text"]) (fun _ _ _ _ _ _ us hl => match us, hl with | [_, _], _ => rfl)⟩
  have Nd27 : Fn K mg "_law_hand_right" sHand fd27 _ ["_law_rules_here"] := ⟨fun_mk ld27 cd27 kd27, PySem.W.mg_of X G ad27, (fun_mk (st := sHand) ld27 cd27 kd27).binds (ps := ["_law_rules_here"]) (fun _ _ _ _ _ _ us hl => match us, hl with | [_], _ => rfl)⟩
  have FL := fun_mk (st := sLaw) ld28 cd28 kd28
  have Fm0 := fun_mk (st := sLI) lm0 cm0 km0
  have Bm0 := Fm0.binds (ps := ["self", "text"]) (fun _ _ _ _ _ _ us hl => match us, hl with | [_, _], _ => rfl)
  have Fm1 := fun_mk (st := sIsNext) lm1 cm1 km1
  have Bm1 := Fm1.binds (ps := ["self", "lexeme"]) (fun _ _ _ _ _ _ us hl => match us, hl with | [_, _], _ => rfl)
  have Fm2 := fun_mk (st := sGo) lm2 cm2 km2
  have Bm2 := Fm2.binds (ps := ["self"]) (fun _ _ _ _ _ _ us hl => match us, hl with | [_], _ => rfl)
  have Fm3 := fun_mk (st := sNeed) lm3 cm3 km3
  have Bm3 := Fm3.binds (ps := ["self", "is_right"]) (fun _ _ _ _ _ _ us hl => match us, hl with | [_, _], _ => rfl)
  have Fm4 := fun_mk (st := sTake) lm4 cm4 km4
  have Bm4 := Fm4.binds (ps := ["self", "lexeme"]) (fun _ _ _ _ _ _ us hl => match us, hl with | [_, _], _ => rfl)
  have Fm5 := fun_mk (st := sFinish) lm5 cm5 km5
  have Bm5 := Fm5.binds (ps := ["self"]) (fun _ _ _ _ _ _ us hl => match us, hl with | [_], _ => rfl)
  have Fm6 := fun_mk (st := sPlanI) lm6 cm6 km6
  have Bm6 := Fm6.binds (ps := ["self", "tables", "end"]) (fun _ _ _ _ _ _ us hl => match us, hl with | [_, _, _], _ => rfl)
  have XCT : K10E.XT PP K mg sTextI "BadText.__init__" "place" "place" CT fICT cdaCT ccCT := ⟨⟨_, _, _, _, _, _, _, _, _, _, _, _, _, _, _, xLCT, rfl⟩, saCT, noCT, iCCT, tCCT, kCCT, exCT, veCT, tyCT, suCT, slfCT, opq, PySem.W.mg_none_of X G zsuper, ⟨_, _, _, ceCT⟩, ⟨_, _, _, _, _, _, cvCT, cfCT, cgCT⟩, coCT, ⟨_, _, _, _, _, _, _, _, lFCT⟩⟩
  have XCTab : K10E.XT PP K mg sTabI "BadTable.__init__" "path" "path" CTab fICTab cdaCTab ccCTab := ⟨⟨_, _, _, _, _, _, _, _, _, _, _, _, _, _, _, xLCTab, rfl⟩, saCTab, noCTab, iCCTab, tCCTab, kCCTab, exCTab, veCTab, tyCTab, suCTab, slfCTab, opq, PySem.W.mg_none_of X G zsuper, ⟨_, _, _, ceCTab⟩, ⟨_, _, _, _, _, _, cvCTab, cfCTab, cgCTab⟩, coCTab, ⟨_, _, _, _, _, _, _, _, lFCTab⟩⟩
  have XCB : K10E.XT PP K mg sPlanErrI "BadPlan.__init__" "path" "path" CB fICB cdaCB ccCB := ⟨⟨_, _, _, _, _, _, _, _, _, _, _, _, _, _, _, xLCB, rfl⟩, saCB, noCB, iCCB, tCCB, kCCB, exCB, veCB, tyCB, suCB, slfCB, opq, PySem.W.mg_none_of X G zsuper, ⟨_, _, _, ceCB⟩, ⟨_, _, _, _, _, _, cvCB, cfCB, cgCB⟩, coCB, ⟨_, _, _, _, _, _, _, _, lFCB⟩⟩
  have T : GT K mg := ⟨PySem.W.mg_none_of X G zlen, PySem.W.mg_none_of X G zisinstance, PySem.W.mg_none_of X G zrange, PySem.W.mg_none_of X G zall, PySem.W.mg_none_of X G zenumerate, PySem.W.mg_none_of X G ztuple, PySem.W.mg_none_of X G zlist, PySem.W.mg_none_of X G zstr, PySem.W.mg_none_of X G zint, PySem.W.mg_none_of X G zmax, PySem.W.mg_none_of X G zrepr, PySem.W.mg_none_of X G zsorted, PySem.W.mg_none_of X G zabs, ⟨_, PySem.W.mg_of X G gLETTERS⟩, ⟨_, PySem.W.mg_of X G gFIGURES⟩, ⟨_, PySem.W.mg_of X G gBLANKS⟩, ⟨_, PySem.W.mg_of X G gSIGNS⟩⟩
  have LT1 : LT w K mg CL CT := ⟨⟨pgCL, hdCL, poCL, saCL⟩, nCLtext, nCLnow, PySem.W.mg_of X G aCL, PySem.W.mg_of X G aCT, ⟨_, _, _, XCT⟩⟩
  have GP1 : GP w K mg CP CB := ⟨⟨pgCP, hdCP, poCP, saCP⟩, nCPown_tables, nCPown_end, PySem.W.mg_of X G aCP, PySem.W.mg_of X G aCB, ⟨_, _, _, XCB⟩, ⟨aE, PySem.W.mg_of X G gE, fun H => .inr ⟨_, _, _, lE, rfl, rfl, by show 2 ≤ sizeLine; rw [sizeLine_eq]; decide, .cons ⟨_, rfl⟩ (.cons ⟨_, rfl⟩ .nil)⟩⟩⟩
  have GX1 : GTab w K mg CTab := ⟨PySem.W.mg_of X G aCTab, ⟨_, _, _, XCTab⟩⟩
  have ex : ∀ {c1 c2 cls : Value} {b1 b2 : Bool}, PySem.W.exmOne K cls c1 = some b1 → PySem.W.exmOne K cls c2 = some b2 → PySem.W.exmAny K cls [c1, c2] = some (b1 || (b2 || false)) := fun e1 e2 => by unfold PySem.W.exmAny; rw [e1]; unfold PySem.W.exmAny; rw [e2]; rfl
  have CG1 : CG K CT CTab CB := ⟨gaCT, ggCT, noCT, exCT, hxCT, PySem.W.exm_ref exCT hxCT tyCT sCTCT, PySem.W.exm_ref exCT hxCT tyCT sCTabCT, PySem.W.exm_ref exCT hxCT tyCT sCBCT, ex (PySem.W.exm_ref exCB hxCB tyCB sCTabCB) (PySem.W.exm_ref exCTab hxCTab tyCTab sCTabCTab), ex (PySem.W.exm_ref exCB hxCB tyCB sCBCB) (PySem.W.exm_ref exCTab hxCTab tyCTab sCBCTab)⟩
  refine ⟨_, fun s v => .of_eq rfl, fun base _ _ => ok_law FL ?_⟩
  have g0 : FnOk PP w K mg base CX0 2 _ _ ["text", "place"] spLexAt := ok_lexAt Nd2.F T Nd1 Nd0
  have M1 : LM w K mg base CL CT := ⟨LT1, T, ⟨_, _, ⟨am1, im1, km1⟩, Bm1, ok_isNext Fm1 LT1⟩, ⟨_, _, ⟨am2, im2, km2⟩, Bm2, ok_go Fm2 LT1 T Nd2 g0⟩, ⟨_, _, ⟨am3, im3, km3⟩, Bm3, ok_need Fm3 LT1⟩⟩
  have M2 : LM2 w K mg base CL CT := ⟨M1, ⟨_, _, ⟨am4, im4, km4⟩, Bm4, ok_take Fm4 M1⟩, ⟨_, _, ⟨am5, im5, km5⟩, Bm5, ok_finish Fm5 M1⟩⟩
  have M3 : LM3 w K mg base CL CT := ⟨M2, ⟨_, _, ⟨mkCL, am0, im0, kcCL⟩, Bm0, ok_LI Fm0 LT1 Nd2 g0⟩⟩
  have g1 := ok_table (D := 64) (n := 0) Nd10 M2 Nd9
  have g2 := ok_end Nd11 M2 Nd10 g1
  have g3 : FnOk PP w K mg base CX0 2 _ _ ["shapes"] spSizes := ok_sizes Nd5.F T Nd4
  have g4 := ok_wtable (n := 64) (base := base) (w := w) (by decide) Nd6 T Nd3 Nd5 g3
  have g5 := ok_wmember Nd7 T Nd6 g4
  have g6 := ok_wplan Nd8 T GP1 Nd7 g5
  have g7 := ok_planI Fm6 T GP1 Nd8 g6
  have g8 := ok_rshape (D := 64) (CTab := CTab) (CB := CB) Nd12 M3 Nd9
  have g9 := ok_rtable (D := 64) (CB := CB) Nd13 M3 GX1 Nd10 Nd5 g1 g3
  have g10 := ok_rplan (D := 64) (CTab := CTab) Nd14 M3 GP1 Nd10 Nd11 Nd5 g1 g2 g3 ⟨_, _, ⟨mkCP, am6, im6, kcCP⟩, Bm6, g7⟩
  have R1 : RD w K mg base CT CTab CB 64 := ⟨⟨_, _, Nd12.g, Nd12.F.kp, Nd12.b, g8.mono (by decide)⟩, ⟨_, _, Nd13.g, Nd13.F.kp, Nd13.b, g9.mono (by decide)⟩, ⟨_, _, Nd14.g, Nd14.F.kp, Nd14.b, g10⟩, PySem.W.mg_of X G aCT, PySem.W.mg_of X G aCTab, PySem.W.mg_of X G aCB, CG1⟩
  have h1 := ok_told (D := 64) Nd26 R1
  have h2 : FnOk PP w K mg base CX0 2 _ _ ["_law_text", "_law_place"] spLLex := ok_llex Nd18.F T Nd19 Nd20
  have h3 := ok_wrong (D := 64) (by decide) Nd21 Nd18 T h2
  have h4 : FnOk PP w K mg base CX0 1 _ _ ["_law_source_here", "_law_many"] spPick := ok_pick Nd16 T
  have h5 := ok_of Nd17 Nd16 T h4
  exact ⟨T, ⟨_, _, Nd15, ok_source Nd15 T⟩, ⟨_, _, Nd23, ok_rules Nd23.F⟩, ⟨_, _, Nd24, ok_drawn Nd24 Nd17 T h5⟩, ⟨_, _, Nd16, h4⟩, ⟨_, _, Nd25, ok_spoilt Nd25 Nd16 Nd17 T h4 h5⟩, ⟨_, _, Nd22, ok_spaced Nd22 Nd17 T h5⟩, ⟨_, _, Nd21, h3⟩, ⟨_, _, Nd26, h1⟩, ⟨_, _, Nd27, ok_hand Nd27 T Nd26 Nd21 h1 h3⟩⟩
end K10
open PySem PySem.W PyProof.Rows
set_option maxRecDepth 100000 in
set_option maxHeartbeats 0 in
theorem PySem.Challenge.cw_lumpplans_k10_whole_wrong_places_holds : PySem.Challenge.rw_lumpplans_k10_whole_wrong_places.Holds := by
  w_on; o_law; k_head; (case hw => w_witness2)
  k_fill
  refine K10.walkG (l := PySem.Challenge.rw_lumpplans_k10_whole_wrong_places) (n := 63) (k := 74) (sp := K10.spLaw) (x := "_law_script") rfl (by decide) rfl ⟨rfl, by decide, by decide⟩ (fun w h Y => PySem.W.kIn_of Y) ?F (fun _ _ a ns hl hS => ⟨a, ns, rfl, hS, Nat.le_trans hl (by decide), fun _ => rfl⟩)
  case F =>
    intro w mg fa h KX G hmg
    refine' K10.all_mk KX G hmg ?ad0 ?ld0 ?cd0 ?kd0 ?ad1 ?ld1 ?cd1 ?kd1 ?ad2 ?ld2 ?cd2 ?kd2 ?ad3 ?ld3 ?cd3 ?kd3 ?ad4 ?ld4 ?cd4 ?kd4 ?ad5 ?ld5 ?cd5 ?kd5 ?ad6 ?ld6 ?cd6 ?kd6 ?ad7 ?ld7 ?cd7 ?kd7 ?ad8 ?ld8 ?cd8 ?kd8 ?ad9 ?ld9 ?cd9 ?kd9 ?ad10 ?ld10 ?cd10 ?kd10 ?ad11 ?ld11 ?cd11 ?kd11 ?ad12 ?ld12 ?cd12 ?kd12 ?ad13 ?ld13 ?cd13 ?kd13 ?ad14 ?ld14 ?cd14 ?kd14 ?ad15 ?ld15 ?cd15 ?kd15 ?ad16 ?ld16 ?cd16 ?kd16 ?ad17 ?ld17 ?cd17 ?kd17 ?ad18 ?ld18 ?cd18 ?kd18 ?ad19 ?ld19 ?cd19 ?kd19 ?ad20 ?ld20 ?cd20 ?kd20 ?ad21 ?ld21 ?cd21 ?kd21 ?ad22 ?ld22 ?cd22 ?kd22 ?ad23 ?ld23 ?cd23 ?kd23 ?ad24 ?ld24 ?cd24 ?kd24 ?ad25 ?ld25 ?cd25 ?kd25 ?ad26 ?ld26 ?cd26 ?kd26 ?ad27 ?ld27 ?cd27 ?kd27 ?ad28 ?ld28 ?cd28 ?kd28 ?aCL ?pgCL ?hdCL ?poCL ?saCL ?mkCL ?kcCL ?aCP ?pgCP ?hdCP ?poCP ?saCP ?mkCP ?kcCP ?nCLtext ?nCLnow ?nCPown_tables ?nCPown_end ?am0 ?im0 ?lm0 ?cm0 ?km0 ?am1 ?im1 ?lm1 ?cm1 ?km1 ?am2 ?im2 ?lm2 ?cm2 ?km2 ?am3 ?im3 ?lm3 ?cm3 ?km3 ?am4 ?im4 ?lm4 ?cm4 ?km4 ?am5 ?im5 ?lm5 ?cm5 ?km5 ?am6 ?im6 ?lm6 ?cm6 ?km6 ?aCT ?xLCT ?saCT ?noCT ?iCCT ?tCCT ?kCCT ?exCT ?veCT ?tyCT ?suCT ?slfCT ?lFCT ?coCT ?ceCT ?cvCT ?cfCT ?cgCT ?hxCT ?aCTab ?xLCTab ?saCTab ?noCTab ?iCCTab ?tCCTab ?kCCTab ?exCTab ?veCTab ?tyCTab ?suCTab ?slfCTab ?lFCTab ?coCTab ?ceCTab ?cvCTab ?cfCTab ?cgCTab ?hxCTab ?aCB ?xLCB ?saCB ?noCB ?iCCB ?tCCB ?kCCB ?exCB ?veCB ?tyCB ?suCB ?slfCB ?lFCB ?coCB ?ceCB ?cvCB ?cfCB ?cgCB ?hxCB ?gaCT ?ggCT ?sCTCT ?sCTabCT ?sCBCT ?sCTabCB ?sCTabCTab ?sCBCB ?sCBCTab ?opq ?zsuper ?zlen ?zisinstance ?zrange ?zall ?zenumerate ?ztuple ?zlist ?zstr ?zint ?zmax ?zrepr ?zsorted ?zabs ?gLETTERS ?gFIGURES ?gBLANKS ?gSIGNS ?gE ?lE
    (case ad0 => k_is)
    (case ld0 => k_is)
    (case cd0 => k_is)
    (case kd0 => k_is)
    (case ad1 => k_is)
    (case ld1 => k_is)
    (case cd1 => k_is)
    (case kd1 => k_is)
    (case ad2 => k_is)
    (case ld2 => k_is)
    (case cd2 => k_is)
    (case kd2 => k_is)
    (case ad3 => k_is)
    (case ld3 => k_is)
    (case cd3 => k_is)
    (case kd3 => k_is)
    (case ad4 => k_is)
    (case ld4 => k_is)
    (case cd4 => k_is)
    (case kd4 => k_is)
    (case ad5 => k_is)
    (case ld5 => k_is)
    (case cd5 => k_is)
    (case kd5 => k_is)
    (case ad6 => k_is)
    (case ld6 => k_is)
    (case cd6 => k_is)
    (case kd6 => k_is)
    (case ad7 => k_is)
    (case ld7 => k_is)
    (case cd7 => k_is)
    (case kd7 => k_is)
    (case ad8 => k_is)
    (case ld8 => k_is)
    (case cd8 => k_is)
    (case kd8 => k_is)
    (case ad9 => k_is)
    (case ld9 => k_is)
    (case cd9 => k_is)
    (case kd9 => k_is)
    (case ad10 => k_is)
    (case ld10 => k_is)
    (case cd10 => k_is)
    (case kd10 => k_is)
    (case ad11 => k_is)
    (case ld11 => k_is)
    (case cd11 => k_is)
    (case kd11 => k_is)
    (case ad12 => k_is)
    (case ld12 => k_is)
    (case cd12 => k_is)
    (case kd12 => k_is)
    (case ad13 => k_is)
    (case ld13 => k_is)
    (case cd13 => k_is)
    (case kd13 => k_is)
    (case ad14 => k_is)
    (case ld14 => k_is)
    (case cd14 => k_is)
    (case kd14 => k_is)
    (case ad15 => k_is)
    (case ld15 => k_is)
    (case cd15 => k_is)
    (case kd15 => k_is)
    (case ad16 => k_is)
    (case ld16 => k_is)
    (case cd16 => k_is)
    (case kd16 => k_is)
    (case ad17 => k_is)
    (case ld17 => k_is)
    (case cd17 => k_is)
    (case kd17 => k_is)
    (case ad18 => k_is)
    (case ld18 => k_is)
    (case cd18 => k_is)
    (case kd18 => k_is)
    (case ad19 => k_is)
    (case ld19 => k_is)
    (case cd19 => k_is)
    (case kd19 => k_is)
    (case ad20 => k_is)
    (case ld20 => k_is)
    (case cd20 => k_is)
    (case kd20 => k_is)
    (case ad21 => k_is)
    (case ld21 => k_is)
    (case cd21 => k_is)
    (case kd21 => k_is)
    (case ad22 => k_is)
    (case ld22 => k_is)
    (case cd22 => k_is)
    (case kd22 => k_is)
    (case ad23 => k_is)
    (case ld23 => k_is)
    (case cd23 => k_is)
    (case kd23 => k_is)
    (case ad24 => k_is)
    (case ld24 => k_is)
    (case cd24 => k_is)
    (case kd24 => k_is)
    (case ad25 => k_is)
    (case ld25 => k_is)
    (case cd25 => k_is)
    (case kd25 => k_is)
    (case ad26 => k_is)
    (case ld26 => k_is)
    (case cd26 => k_is)
    (case kd26 => k_is)
    (case ad27 => k_is)
    (case ld27 => k_is)
    (case cd27 => k_is)
    (case kd27 => k_is)
    (case ad28 => k_is)
    (case ld28 => k_is)
    (case cd28 => k_is)
    (case kd28 => k_is)
    (case aCL => k_is)
    (case pgCL => k_is)
    (case hdCL => k_is)
    (case poCL => k_is)
    (case saCL => k_is)
    (case mkCL => k_is)
    (case kcCL => k_is)
    (case aCP => k_is)
    (case pgCP => k_is)
    (case hdCP => k_is)
    (case poCP => k_is)
    (case saCP => k_is)
    (case mkCP => k_is)
    (case kcCP => k_is)
    (case nCLtext => k_is)
    (case nCLnow => k_is)
    (case nCPown_tables => k_is)
    (case nCPown_end => k_is)
    (case am0 => k_is)
    (case im0 => k_is)
    (case lm0 => k_is)
    (case cm0 => k_is)
    (case km0 => k_is)
    (case am1 => k_is)
    (case im1 => k_is)
    (case lm1 => k_is)
    (case cm1 => k_is)
    (case km1 => k_is)
    (case am2 => k_is)
    (case im2 => k_is)
    (case lm2 => k_is)
    (case cm2 => k_is)
    (case km2 => k_is)
    (case am3 => k_is)
    (case im3 => k_is)
    (case lm3 => k_is)
    (case cm3 => k_is)
    (case km3 => k_is)
    (case am4 => k_is)
    (case im4 => k_is)
    (case lm4 => k_is)
    (case cm4 => k_is)
    (case km4 => k_is)
    (case am5 => k_is)
    (case im5 => k_is)
    (case lm5 => k_is)
    (case cm5 => k_is)
    (case km5 => k_is)
    (case am6 => k_is)
    (case im6 => k_is)
    (case lm6 => k_is)
    (case cm6 => k_is)
    (case km6 => k_is)
    (case aCT => k_is)
    (case xLCT => k_is)
    (case saCT => k_is)
    (case noCT => k_is)
    (case iCCT => k_is)
    (case tCCT => k_is)
    (case kCCT => k_is)
    (case exCT => k_is)
    (case veCT => k_is)
    (case tyCT => k_is)
    (case suCT => ks_is)
    (case slfCT => k_is)
    (case lFCT => k_is)
    (case coCT => k_is)
    (case ceCT => k_is)
    (case cvCT => k_is)
    (case cfCT => first | rfl | k_is)
    (case cgCT => first | rfl | decide +kernel)
    (case hxCT => k_is)
    (case aCTab => k_is)
    (case xLCTab => k_is)
    (case saCTab => k_is)
    (case noCTab => k_is)
    (case iCCTab => k_is)
    (case tCCTab => k_is)
    (case kCCTab => k_is)
    (case exCTab => k_is)
    (case veCTab => k_is)
    (case tyCTab => k_is)
    (case suCTab => ks_is)
    (case slfCTab => k_is)
    (case lFCTab => k_is)
    (case coCTab => k_is)
    (case ceCTab => k_is)
    (case cvCTab => k_is)
    (case cfCTab => first | rfl | k_is)
    (case cgCTab => first | rfl | decide +kernel)
    (case hxCTab => k_is)
    (case aCB => k_is)
    (case xLCB => k_is)
    (case saCB => k_is)
    (case noCB => k_is)
    (case iCCB => k_is)
    (case tCCB => k_is)
    (case kCCB => k_is)
    (case exCB => k_is)
    (case veCB => k_is)
    (case tyCB => k_is)
    (case suCB => ks_is)
    (case slfCB => k_is)
    (case lFCB => k_is)
    (case coCB => k_is)
    (case ceCB => k_is)
    (case cvCB => k_is)
    (case cfCB => first | rfl | k_is)
    (case cgCB => first | rfl | decide +kernel)
    (case hxCB => k_is)
    (case gaCT => k_is)
    (case ggCT => k_is)
    (case sCTCT => first | rfl | k_is)
    (case sCTabCT => first | rfl | k_is)
    (case sCBCT => first | rfl | k_is)
    (case sCTabCB => first | rfl | k_is)
    (case sCTabCTab => first | rfl | k_is)
    (case sCBCB => first | rfl | k_is)
    (case sCBCTab => first | rfl | k_is)
    (case opq => k_is)
    (case zsuper => k_is)
    (case zlen => k_is)
    (case zisinstance => k_is)
    (case zrange => k_is)
    (case zall => k_is)
    (case zenumerate => k_is)
    (case ztuple => k_is)
    (case zlist => k_is)
    (case zstr => k_is)
    (case zint => k_is)
    (case zmax => k_is)
    (case zrepr => k_is)
    (case zsorted => k_is)
    (case zabs => k_is)
    (case gLETTERS => k_is)
    (case gFIGURES => k_is)
    (case gBLANKS => k_is)
    (case gSIGNS => k_is)
    (case gE => k_is)
    (case lE => k_is)
