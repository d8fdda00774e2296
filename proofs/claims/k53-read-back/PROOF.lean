import PyProof.Rows.All
import Wide.All
import OpenK.AllK
import Wide.FinOn
import PyProof.StrLawsTight
import HandS.ForMost
import HandS.Defaults
import HandS.HeadHook1
import HandS.HeadHook2
import PySem.Challenge.RW_armwarrant_k53_whole_programs_read_back
import HandS.SortKw
import HandS.IsInst
import HandS.FStr
import HandS.EndBits
import KE.GoesEnumKw
import PyProof.ReprRoads
import HandS.HeadEnd
import HandS.Head0
import HandS.Head1
import HandS.Head2
import HandS.HeadWalk
set_option Elab.async false
set_option linter.all false
set_option maxRecDepth 100000
set_option maxHeartbeats 4000000
/-! K0 -/
/-! the plain law: statements, their lines, their words; the words of the lines are the words of the statements -/
namespace K53
open PySem
/-! ### texts -/
abbrev cs (x : Str) : List Nat := x.cps.toList
theorem sx {a b : Str} (h : cs a = cs b) : a = b := by
  cases a; cases b
  simp only [cs] at h
  exact congrArg Str.mk (Array.toList_inj.mp h)
theorem cs_app (a b : Str) : cs (a ++ b) = cs a ++ cs b := by
  show (a.cps ++ b.cps).toList = _
  exact Array.toList_append
theorem app_assoc (a b c : Str) : a ++ b ++ c = a ++ (b ++ c) := sx (by rw [cs_app, cs_app, cs_app, cs_app, List.append_assoc])
theorem len_cs (a : Str) : a.length = (cs a).length := by simp [cs, Str.length]
theorem len_app (a b : Str) : (a ++ b).length = a.length + b.length := by rw [len_cs, len_cs, len_cs, cs_app, List.length_append]
theorem empty_app (a : Str) : Str.empty ++ a = a := sx (by rw [cs_app]; rfl)
/-! ### statements -/
inductive Pl where
  | move (n : Str) | take (n : Str) | call (n : Str) | set (n : Str) (b : Bool) | wait (n : Str) (b : Bool) | release
inductive S where
  | pl (p : Pl) | iff (x : Str) (a b : List S) | rep (k : Nat) (a : List S)
def onoff (b : Bool) : Str := if b then "on" else "off"
def kws : List Str := ["move", "set", "wait", "take", "release", "if", "else", "repeat", "call", "routine", "on", "off"]
def Letter (c : Nat) : Prop := 97 ≤ c ∧ c ≤ 122
def Sign (c : Nat) : Prop := Letter c ∨ (48 ≤ c ∧ c ≤ 57) ∨ c = 95
structure NameOk (x : Str) : Prop where
  ex : ∃ c r, cs x = c :: r ∧ Letter c ∧ (∀ d ∈ r, Sign d) ∧ r.length < 20
  nk : x ∉ kws
def Pl.Ok : Pl → Prop
  | .move n => NameOk n | .take n => NameOk n | .call n => NameOk n | .set n _ => NameOk n | .wait n _ => NameOk n | .release => True
def Ok : Nat → S → Prop
  | _, .pl p => p.Ok
  | 0, .iff _ _ _ => False
  | 0, .rep _ _ => False
  | d + 1, .iff x a b => NameOk x ∧ a.length ≤ 2 ∧ b.length ≤ 2 ∧ (∀ s ∈ a, Ok d s) ∧ (∀ s ∈ b, Ok d s)
  | d + 1, .rep k a => 1 ≤ k ∧ k ≤ 3 ∧ a.length ≤ 2 ∧ (∀ s ∈ a, Ok d s)
def OkL (d : Nat) (l : List S) : Prop := ∀ s ∈ l, Ok d s
theorem OkL.nil {d : Nat} : OkL d [] := fun _ h => nomatch h
theorem OkL.cons {d : Nat} {s : S} {l : List S} (h : Ok d s) (k : OkL d l) : OkL d (s :: l) := fun t m => by
  rcases List.mem_cons.mp m with rfl | m
  · exact h
  · exact k t m
theorem Ok.pl' {d : Nat} {p : Pl} (h : p.Ok) : Ok d (.pl p) := by cases d <;> exact h
theorem ok_pl {d : Nat} {p : Pl} (h : Ok d (.pl p)) : p.Ok := by cases d <;> exact h
theorem Ok.up : ∀ {d : Nat} {s : S}, Ok d s → Ok (d + 1) s
  | _, .pl p, h => Ok.pl' (ok_pl h)
  | 0, .iff _ _ _, h => h.elim
  | 0, .rep _ _, h => h.elim
  | d + 1, .iff x a b, ⟨h1, h2, h3, h4, h5⟩ => ⟨h1, h2, h3, fun s m => (h4 s m).up, fun s m => (h5 s m).up⟩
  | d + 1, .rep k a, ⟨h1, h2, h3, h4⟩ => ⟨h1, h2, h3, fun s m => (h4 s m).up⟩
/-! ### data -/
def Pl.data : Pl → PyData
  | .move n => .tuple [.str "move", .str n]
  | .take n => .tuple [.str "take", .str n]
  | .call n => .tuple [.str "call", .str n]
  | .set n b => .tuple [.str "set", .str n, .bool b]
  | .wait n b => .tuple [.str "wait", .str n, .bool b]
  | .release => .tuple [.str "release"]
mutual
def S.data : S → PyData
  | .pl p => p.data
  | .iff x a b => .tuple [.str "if", .str x, .list (dataL a), .list (dataL b)]
  | .rep k a => .tuple [.str "repeat", .int (k : Nat), .list (dataL a)]
def dataL : List S → List PyData
  | [] => []
  | s :: r => s.data :: dataL r
end
theorem dataL_nil : dataL [] = [] := by rw [dataL]
theorem dataL_cons (s : S) (r : List S) : dataL (s :: r) = s.data :: dataL r := by rw [dataL]
theorem dataL_map : ∀ l : List S, dataL l = l.map S.data
  | [] => dataL_nil
  | s :: r => by rw [dataL_cons, dataL_map r, List.map_cons]
theorem dataL_app (a b : List S) : dataL (a ++ b) = dataL a ++ dataL b := by rw [dataL_map, dataL_map, dataL_map, List.map_append]
theorem data_pl (p : Pl) : (S.pl p).data = p.data := by rw [S.data]
theorem data_iff (x : Str) (a b : List S) : (S.iff x a b).data = .tuple [.str "if", .str x, .list (dataL a), .list (dataL b)] := by rw [S.data]
theorem data_rep (k : Nat) (a : List S) : (S.rep k a).data = .tuple [.str "repeat", .int (k : Nat), .list (dataL a)] := by rw [S.data]
def dataR (r : Str × List S) : PyData := .tuple [.str r.1, .list (dataL r.2)]
/-! ### lines -/
def ind (l : List Str) : List Str := l.map fun x => "  " ++ x
def Pl.line : Pl → Str
  | .move n => "move" ++ " " ++ n
  | .take n => "take" ++ " " ++ n
  | .call n => "call" ++ " " ++ n
  | .set n b => "set" ++ " " ++ n ++ " " ++ onoff b
  | .wait n b => "wait" ++ " " ++ n ++ " " ++ onoff b
  | .release => "release"
def headIf (x : Str) : Str := "if " ++ x ++ " {"
def headRep (k : Nat) : Str := "repeat " ++ (toString (k : Int) : Str) ++ " {"
def headRt (x : Str) : Str := "routine " ++ x ++ " {"
mutual
def S.lines : S → List Str
  | .pl p => [p.line]
  | .iff x a b => headIf x :: (ind (linesL a) ++ ((if b.isEmpty then [] else ("} else {" : Str) :: ind (linesL b)) ++ [("}" : Str)]))
  | .rep k a => headRep k :: (ind (linesL a) ++ [("}" : Str)])
def linesL : List S → List Str
  | [] => []
  | s :: r => s.lines ++ linesL r
end
theorem linesL_nil : linesL [] = [] := by rw [linesL]
theorem linesL_cons (s : S) (r : List S) : linesL (s :: r) = s.lines ++ linesL r := by rw [linesL]
theorem linesL_app : ∀ a b : List S, linesL (a ++ b) = linesL a ++ linesL b
  | [], b => by rw [linesL_nil]; rfl
  | s :: r, b => by rw [List.cons_append, linesL_cons, linesL_cons, linesL_app r b, List.append_assoc]
theorem linesL_one (s : S) : linesL [s] = s.lines := by rw [linesL_cons, linesL_nil, List.append_nil]
theorem lines_pl (p : Pl) : (S.pl p).lines = [p.line] := by rw [S.lines]
theorem lines_iff (x : Str) (a b : List S) : (S.iff x a b).lines = headIf x :: (ind (linesL a) ++ ((if b.isEmpty then [] else ("} else {" : Str) :: ind (linesL b)) ++ [("}" : Str)])) := by rw [S.lines]
theorem lines_rep (k : Nat) (a : List S) : (S.rep k a).lines = headRep k :: (ind (linesL a) ++ [("}" : Str)]) := by rw [S.lines]
def linesR (r : Str × List S) : List Str := headRt r.1 :: (ind (linesL r.2) ++ [("}" : Str)])
def linesP (rs : List (Str × List S)) (b : List S) : List Str := rs.flatMap linesR ++ linesL b
def endl (x : Str) : Str := x ++ "\n"
def textP (rs : List (Str × List S)) (b : List S) : Str := Txt.join "" ((linesP rs b).map endl)
/-! ### words -/
def Pl.toks : Pl → List Str
  | .move n => ["move", n]
  | .take n => ["take", n]
  | .call n => ["call", n]
  | .set n b => ["set", n, onoff b]
  | .wait n b => ["wait", n, onoff b]
  | .release => ["release"]
mutual
def S.toks : S → List Str
  | .pl p => p.toks
  | .iff x a b => ("if" : Str) :: x :: ("{" : Str) :: (toksL a ++ (("}" : Str) :: (if b.isEmpty then [] else ("else" : Str) :: ("{" : Str) :: (toksL b ++ [("}" : Str)]))))
  | .rep k a => ("repeat" : Str) :: (toString (k : Int) : Str) :: ("{" : Str) :: (toksL a ++ [("}" : Str)])
def toksL : List S → List Str
  | [] => []
  | s :: r => s.toks ++ toksL r
end
theorem toksL_nil : toksL [] = [] := by rw [toksL]
theorem toksL_cons (s : S) (r : List S) : toksL (s :: r) = s.toks ++ toksL r := by rw [toksL]
theorem toksL_app : ∀ a b : List S, toksL (a ++ b) = toksL a ++ toksL b
  | [], b => by rw [toksL_nil]; rfl
  | s :: r, b => by rw [List.cons_append, toksL_cons, toksL_cons, toksL_app r b, List.append_assoc]
theorem toksL_one (s : S) : toksL [s] = s.toks := by rw [toksL_cons, toksL_nil, List.append_nil]
theorem toks_pl (p : Pl) : (S.pl p).toks = p.toks := by rw [S.toks]
theorem toks_iff (x : Str) (a b : List S) : (S.iff x a b).toks = ("if" : Str) :: x :: ("{" : Str) :: (toksL a ++ (("}" : Str) :: (if b.isEmpty then [] else ("else" : Str) :: ("{" : Str) :: (toksL b ++ [("}" : Str)])))) := by rw [S.toks]
theorem toks_rep (k : Nat) (a : List S) : (S.rep k a).toks = ("repeat" : Str) :: (toString (k : Int) : Str) :: ("{" : Str) :: (toksL a ++ [("}" : Str)]) := by rw [S.toks]
def toksR (r : Str × List S) : List Str := ("routine" : Str) :: r.1 :: ("{" : Str) :: (toksL r.2 ++ [("}" : Str)])
def toksP (rs : List (Str × List S)) (b : List S) : List Str := rs.flatMap toksR ++ toksL b
/-! ### the words of a line -/
def special (c : Nat) : Bool := c == 32 || c == 9 || c == 123 || c == 125
def brace (c : Nat) : Bool := c == 123 || c == 125
def lexGo : Str → List Nat → List Str
  | _, [] => []
  | cur, c :: r => if special c then (if cur = Str.empty then [] else [cur]) ++ ((if brace c then [⟨#[c]⟩] else []) ++ lexGo Str.empty r) else lexGo (cur ++ ⟨#[c]⟩) r
def lexLine (x : Str) : List Str := lexGo Str.empty (cs x ++ [32])
def lexes (l : List Str) : List Str := l.flatMap lexLine
theorem lexes_app (a b : List Str) : lexes (a ++ b) = lexes a ++ lexes b := List.flatMap_append
theorem lexes_cons (a : Str) (b : List Str) : lexes (a :: b) = lexLine a ++ lexes b := List.flatMap_cons
theorem lexes_nil : lexes [] = [] := rfl
theorem go_space (r : List Nat) : lexGo Str.empty (32 :: r) = lexGo Str.empty r := by
  rw [lexGo, if_pos (by decide), if_pos rfl, if_neg (by decide)]
  rfl
theorem go_open (r : List Nat) : lexGo Str.empty (123 :: r) = ("{" : Str) :: lexGo Str.empty r := by
  rw [lexGo, if_pos (by decide), if_pos rfl, if_pos (by decide)]
  rfl
theorem go_close (r : List Nat) : lexGo Str.empty (125 :: r) = ("}" : Str) :: lexGo Str.empty r := by
  rw [lexGo, if_pos (by decide), if_pos rfl, if_pos (by decide)]
  rfl
theorem go_plain : ∀ (w : List Nat) (cur : Str) (r : List Nat), (∀ c ∈ w, special c = false) → lexGo cur (w ++ r) = lexGo (cur ++ ⟨w.toArray⟩) r
  | [], cur, r, _ => by
    have e : cur ++ (⟨([] : List Nat).toArray⟩ : Str) = cur := sx (by rw [cs_app]; simp [cs])
    rw [e]
    rfl
  | c :: w, cur, r, h => by
    have hc := h c List.mem_cons_self
    rw [List.cons_append, lexGo, if_neg (by rw [hc]; exact Bool.false_ne_true), go_plain w _ r fun d hd => h d (List.mem_cons_of_mem _ hd)]
    congr 1
    exact sx (by rw [cs_app, cs_app, cs_app]; simp [cs])
/-- a word and the space behind it -/
theorem go_word {w : Str} (h : ∀ c ∈ cs w, special c = false) (hn : w ≠ Str.empty) (r : List Nat) : lexGo Str.empty (cs w ++ 32 :: r) = w :: lexGo Str.empty r := by
  rw [go_plain _ _ _ h]
  have e : Str.empty ++ (⟨(cs w).toArray⟩ : Str) = w := sx (by rw [empty_app])
  rw [e, lexGo, if_pos (by decide), if_neg hn, if_neg (by decide)]
  rfl
/-- a word of a text: not empty, no separator, no line's end, no remark -/
structure Wd (w : Str) : Prop where
  ne : w ≠ Str.empty
  sp : ∀ c ∈ cs w, special c = false
theorem wd_of {w : Str} (h : (cs w).all (fun c => !special c) = true) (hn : (cs w).isEmpty = false) : Wd w := by
  refine ⟨fun e => ?_, fun c hc => ?_⟩
  · rw [e] at hn
    cases hn
  · have := List.all_eq_true.mp h c hc
    simpa using this
theorem sign_special {c : Nat} (h : Sign c) : special c = false := by
  unfold special
  rcases h with h | h | h
  · obtain ⟨h1, h2⟩ := h
    simp only [Bool.or_eq_false_iff, beq_eq_false_iff_ne]
    omega
  · simp only [Bool.or_eq_false_iff, beq_eq_false_iff_ne]
    omega
  · simp only [Bool.or_eq_false_iff, beq_eq_false_iff_ne]
    omega
theorem NameOk.signs {x : Str} (h : NameOk x) : ∀ c ∈ cs x, Sign c := by
  obtain ⟨c, r, e, l, s, _⟩ := h.ex
  rw [e]
  intro d hd
  rcases List.mem_cons.mp hd with rfl | hd
  · exact .inl l
  · exact s d hd
theorem NameOk.len {x : Str} (h : NameOk x) : 1 ≤ x.length ∧ x.length ≤ 20 := by
  obtain ⟨c, r, e, _, _, hr⟩ := h.ex
  rw [len_cs, e, List.length_cons]
  omega
theorem NameOk.wd {x : Str} (h : NameOk x) : Wd x := by
  refine ⟨fun e => ?_, fun c hc => sign_special (h.signs c hc)⟩
  have := h.len.1
  rw [e] at this
  exact absurd this (by decide)
theorem wd_kw {x : Str} (h : x ∈ kws) : Wd x := by
  have all : ∀ y ∈ kws, (cs y).all (fun c => !special c) = true ∧ (cs y).isEmpty = false := by decide +kernel
  exact wd_of (all x h).1 (all x h).2
theorem num_cases {k : Nat} (h1 : 1 ≤ k) (h2 : k ≤ 3) : k = 1 ∨ k = 2 ∨ k = 3 := by omega
theorem wd_num {k : Nat} (h1 : 1 ≤ k) (h2 : k ≤ 3) : Wd (toString (k : Int) : Str) := by
  rcases num_cases h1 h2 with rfl | rfl | rfl <;> exact wd_of (by decide +kernel) (by decide +kernel)
theorem cs_sp : cs (" " : Str) = [32] := by decide +kernel
theorem cs_sp2 : cs ("  " : Str) = [32, 32] := by decide +kernel
theorem cs_op : cs (" {" : Str) = [32, 123] := by decide +kernel
theorem cs_nl : cs ("\n" : Str) = [10] := by decide +kernel
theorem lex_ind (x : Str) : lexLine ("  " ++ x) = lexLine x := by
  unfold lexLine
  rw [cs_app, cs_sp2]
  show lexGo Str.empty (32 :: 32 :: (cs x ++ [32])) = _
  rw [go_space, go_space]
theorem lexes_ind : ∀ l : List Str, lexes (ind l) = lexes l
  | [] => rfl
  | x :: r => by
    show lexes (("  " ++ x) :: ind r) = _
    rw [lexes_cons, lexes_cons, lex_ind, lexes_ind r]
theorem lex1 {w : Str} (h : Wd w) : lexLine w = [w] := by
  unfold lexLine
  rw [go_word h.sp h.ne]
  rfl
theorem lex2 {a b : Str} (ha : Wd a) (hb : Wd b) : lexLine (a ++ " " ++ b) = [a, b] := by
  unfold lexLine
  rw [cs_app, cs_app, cs_sp, List.append_assoc, List.append_assoc]
  show lexGo Str.empty (cs a ++ 32 :: (cs b ++ [32])) = _
  rw [go_word ha.sp ha.ne, go_word hb.sp hb.ne]
  rfl
theorem lex3 {a b c : Str} (ha : Wd a) (hb : Wd b) (hc : Wd c) : lexLine (a ++ " " ++ b ++ " " ++ c) = [a, b, c] := by
  unfold lexLine
  simp only [cs_app, cs_sp, List.append_assoc, List.singleton_append, List.cons_append, List.nil_append]
  rw [go_word ha.sp ha.ne, go_word hb.sp hb.ne, go_word hc.sp hc.ne]
  rfl
/-- a word, its space, a name, a brace -/
theorem lexH {h a b : Str} (e : h = a ++ " ") (ha : Wd a) (hb : Wd b) : lexLine (h ++ b ++ " {") = [a, b, ("{" : Str)] := by
  unfold lexLine
  rw [e]
  simp only [cs_app, cs_sp, cs_op, List.append_assoc, List.singleton_append, List.cons_append, List.nil_append]
  rw [go_word ha.sp ha.ne, go_word hb.sp hb.ne, go_open, go_space]
  rfl
theorem lex_close : lexLine ("}" : Str) = [("}" : Str)] := by decide +kernel
theorem lex_else : lexLine ("} else {" : Str) = [("}" : Str), ("else" : Str), ("{" : Str)] := by decide +kernel
theorem onoff_kw (b : Bool) : onoff b ∈ kws := by cases b <;> decide +kernel
theorem pl_lex {p : Pl} (h : p.Ok) : lexLine p.line = p.toks := by
  cases p with
  | move n => exact lex2 (wd_kw (by decide +kernel)) (NameOk.wd h)
  | take n => exact lex2 (wd_kw (by decide +kernel)) (NameOk.wd h)
  | call n => exact lex2 (wd_kw (by decide +kernel)) (NameOk.wd h)
  | set n b => exact lex3 (wd_kw (by decide +kernel)) (NameOk.wd h) (wd_kw (onoff_kw b))
  | wait n b => exact lex3 (wd_kw (by decide +kernel)) (NameOk.wd h) (wd_kw (onoff_kw b))
  | release => exact lex1 (wd_kw (by decide +kernel))
theorem lexesL : ∀ {l : List S}, (∀ s ∈ l, lexes s.lines = s.toks) → lexes (linesL l) = toksL l
  | [], _ => by rw [linesL_nil, toksL_nil]; rfl
  | s :: r, h => by
    rw [linesL_cons, toksL_cons, lexes_app, h s List.mem_cons_self, lexesL fun t m => h t (List.mem_cons_of_mem _ m)]
theorem lex_S : ∀ (d : Nat) (s : S), Ok d s → lexes s.lines = s.toks
  | d, .pl p, h => by
    rw [lines_pl, toks_pl, lexes_cons, pl_lex (ok_pl h)]
    exact List.append_nil _
  | 0, .iff _ _ _, h => h.elim
  | 0, .rep _ _, h => h.elim
  | d + 1, .iff x a b, ⟨h1, _, _, h4, h5⟩ => by
    have ea : lexes (linesL a) = toksL a := lexesL fun s m => lex_S d s (h4 s m)
    have eb : lexes (linesL b) = toksL b := lexesL fun s m => lex_S d s (h5 s m)
    have eh : lexLine (headIf x) = [("if" : Str), x, ("{" : Str)] := lexH (by decide +kernel) (wd_kw (by decide +kernel)) h1.wd
    rw [lines_iff, toks_iff, lexes_cons, lexes_app, lexes_app, lexes_ind, ea, eh]
    cases b with
    | nil =>
      simp only [List.isEmpty_nil, if_true, lexes_cons, lex_close, lexes_nil, List.cons_append, List.nil_append]
    | cons s r =>
      rw [if_neg (by simp), if_neg (by simp), lexes_cons, lexes_ind, eb, lexes_cons, lex_else, lex_close, lexes_nil]
      simp only [List.cons_append, List.nil_append, List.append_assoc]
  | d + 1, .rep k a, ⟨h1, h2, _, h4⟩ => by
    have ea : lexes (linesL a) = toksL a := lexesL fun s m => lex_S d s (h4 s m)
    have eh : lexLine (headRep k) = [("repeat" : Str), (toString (k : Int) : Str), ("{" : Str)] := lexH (by decide +kernel) (wd_kw (by decide +kernel)) (wd_num h1 h2)
    rw [lines_rep, toks_rep, lexes_cons, lexes_app, lexes_ind, ea, eh, lexes_cons, lex_close, lexes_nil]
    rfl
theorem lex_L {d : Nat} {l : List S} (h : OkL d l) : lexes (linesL l) = toksL l := lexesL fun s m => lex_S d s (h s m)
theorem lex_R {d : Nat} {r : Str × List S} (h1 : NameOk r.1) (h : OkL d r.2) : lexes (linesR r) = toksR r := by
  have eh : lexLine (headRt r.1) = [("routine" : Str), r.1, ("{" : Str)] := lexH (by decide +kernel) (wd_kw (by decide +kernel)) h1.wd
  unfold linesR toksR
  rw [lexes_cons, lexes_app, lexes_ind, lex_L h, eh, lexes_cons, lex_close, lexes_nil]
  rfl
theorem lex_P {d e : Nat} {b : List S} (hb : OkL e b) : ∀ {rs : List (Str × List S)}, (∀ r ∈ rs, NameOk r.1 ∧ OkL d r.2) → lexes (linesP rs b) = toksP rs b
  | [], _ => lex_L hb
  | r :: rs, h => by
    have ih := lex_P hb (rs := rs) fun t m => h t (List.mem_cons_of_mem _ m)
    unfold linesP toksP at ih ⊢
    rw [List.flatMap_cons, List.flatMap_cons, List.append_assoc, lexes_app, ih, lex_R (h r List.mem_cons_self).1 (h r List.mem_cons_self).2, List.append_assoc]
/-! ### what stands in a line -/
/-- no line's end, no remark -/
def Tame (x : Str) : Prop := ∀ c ∈ cs x, c ≠ 10 ∧ c ≠ 35
theorem tame_of {x : Str} (h : (cs x).all (fun c => c != 10 && c != 35) = true) : Tame x := fun c hc => by
  have := List.all_eq_true.mp h c hc
  simpa using this
theorem Tame.app {a b : Str} (ha : Tame a) (hb : Tame b) : Tame (a ++ b) := fun c hc => by
  rw [cs_app] at hc
  rcases List.mem_append.mp hc with h | h
  · exact ha c h
  · exact hb c h
theorem NameOk.tame {x : Str} (h : NameOk x) : Tame x := fun c hc => by
  rcases h.signs c hc with q | q | q
  · obtain ⟨h1, h2⟩ := q
    omega
  · omega
  · omega
theorem tame_kw {x : Str} (h : x ∈ kws) : Tame x := by
  have all : ∀ y ∈ kws, (cs y).all (fun c => c != 10 && c != 35) = true := by decide +kernel
  exact tame_of (all x h)
theorem tame_num {k : Nat} (h1 : 1 ≤ k) (h2 : k ≤ 3) : Tame (toString (k : Int) : Str) := by
  rcases num_cases h1 h2 with rfl | rfl | rfl <;> exact tame_of (by decide +kernel)
theorem len_num {k : Nat} (h1 : 1 ≤ k) (h2 : k ≤ 3) : (toString (k : Int) : Str).length = 1 := by
  rcases num_cases h1 h2 with rfl | rfl | rfl <;> decide +kernel
/-- a line: tame, and not longer than m -/
def Line (m : Nat) (x : Str) : Prop := Tame x ∧ x.length ≤ m
theorem Line.up {m n : Nat} {x : Str} (h : Line m x) (q : m ≤ n) : Line n x := ⟨h.1, Nat.le_trans h.2 q⟩
theorem line_ind {m : Nat} {l : List Str} (h : ∀ x ∈ l, Line m x) : ∀ x ∈ ind l, Line (m + 2) x := fun x hx => by
  obtain ⟨y, hy, rfl⟩ := List.mem_map.mp hx
  refine ⟨(tame_of (by decide +kernel)).app (h y hy).1, ?_⟩
  rw [len_app]
  have := (h y hy).2
  have e : ("  " : Str).length = 2 := by decide +kernel
  omega
theorem line_lit {m : Nat} {x : Str} (h : (cs x).all (fun c => c != 10 && c != 35) = true) (q : x.length ≤ m) : Line m x := ⟨tame_of h, q⟩
theorem line_head {h x : Str} (t : (cs h).all (fun c => c != 10 && c != 35) = true) (l : h.length ≤ 8) (hx : Tame x) (lx : x.length ≤ 20) : Line 30 (h ++ x ++ " {") := by
  refine ⟨((tame_of t).app hx).app (tame_of (by decide +kernel)), ?_⟩
  rw [len_app, len_app]
  have e : (" {" : Str).length = 2 := by decide +kernel
  omega
theorem pl_line {p : Pl} (h : p.Ok) : Line 30 p.line := by
  have e1 : (" " : Str).length = 1 := by decide +kernel
  have kl : ∀ y ∈ kws, y.length ≤ 7 := by decide +kernel
  have one : ∀ (k n : Str), k ∈ kws → NameOk n → Line 30 (k ++ " " ++ n) := fun k n hk hn => by
    refine ⟨((tame_kw hk).app (tame_of (by decide +kernel))).app hn.tame, ?_⟩
    rw [len_app, len_app]
    have := kl k hk
    have := hn.len
    omega
  have two : ∀ (k n : Str) (b : Bool), k ∈ kws → k.length ≤ 4 → NameOk n → Line 30 (k ++ " " ++ n ++ " " ++ onoff b) := fun k n b hk h4 hn => by
    have eo : (onoff b).length ≤ 3 := by cases b <;> decide +kernel
    refine ⟨((((tame_kw hk).app (tame_of (by decide +kernel))).app hn.tame).app (tame_of (by decide +kernel))).app (tame_kw (onoff_kw b)), ?_⟩
    rw [len_app, len_app, len_app, len_app]
    have := hn.len
    omega
  cases p with
  | move n => exact one _ n (by decide +kernel) h
  | take n => exact one _ n (by decide +kernel) h
  | call n => exact one _ n (by decide +kernel) h
  | set n b => exact two _ n b (by decide +kernel) (by decide +kernel) h
  | wait n b => exact two _ n b (by decide +kernel) (by decide +kernel) h
  | release => exact line_lit (by decide +kernel) (by decide +kernel)
/-- how many lines a statement has at most -/
def most : Nat → Nat
  | 0 => 1
  | d + 1 => 3 + 4 * most d
theorem most_pos : ∀ d, 1 ≤ most d
  | 0 => Nat.le_refl _
  | d + 1 => by show 1 ≤ 3 + 4 * most d; omega
theorem linesL_all {m n : Nat} : ∀ {l : List S}, (∀ s ∈ l, s.lines.length ≤ n ∧ ∀ x ∈ s.lines, Line m x) → (linesL l).length ≤ l.length * n ∧ ∀ x ∈ linesL l, Line m x
  | [], _ => by
    rw [linesL_nil]
    exact ⟨Nat.zero_le _, fun x h => nomatch h⟩
  | s :: r, h => by
    obtain ⟨h1, h2⟩ := h s List.mem_cons_self
    obtain ⟨h3, h4⟩ := linesL_all fun t k => h t (List.mem_cons_of_mem _ k)
    rw [linesL_cons]
    refine ⟨?_, fun x hx => ?_⟩
    · rw [List.length_append, List.length_cons, Nat.succ_mul]
      omega
    · rcases List.mem_append.mp hx with q | q
      · exact h2 x q
      · exact h4 x q
theorem ind_len (l : List Str) : (ind l).length = l.length := List.length_map _
theorem lines_S : ∀ (d : Nat) (s : S), Ok d s → s.lines.length ≤ most d ∧ ∀ x ∈ s.lines, Line (30 + 2 * d) x
  | d, .pl p, h => by
    rw [lines_pl]
    refine ⟨most_pos d, fun x hx => ?_⟩
    rw [List.mem_singleton.mp hx]
    exact (pl_line (ok_pl h)).up (by omega)
  | 0, .iff _ _ _, h => h.elim
  | 0, .rep _ _, h => h.elim
  | d + 1, .iff x a b, ⟨h1, la, lb, h4, h5⟩ => by
    obtain ⟨na, ma⟩ := linesL_all (n := most d) (m := 30 + 2 * d) (l := a) fun s m => lines_S d s (h4 s m)
    obtain ⟨nb, mb⟩ := linesL_all (n := most d) (m := 30 + 2 * d) (l := b) fun s m => lines_S d s (h5 s m)
    have na2 : a.length * most d ≤ 2 * most d := Nat.mul_le_mul_right _ la
    have nb2 : b.length * most d ≤ 2 * most d := Nat.mul_le_mul_right _ lb
    have hc : Line (30 + 2 * (d + 1)) ("}" : Str) := (line_lit (m := 1) (by decide +kernel) (by decide +kernel)).up (by omega)
    have he : Line (30 + 2 * (d + 1)) ("} else {" : Str) := (line_lit (m := 8) (by decide +kernel) (by decide +kernel)).up (by omega)
    have hh : Line (30 + 2 * (d + 1)) (headIf x) := (line_head (by decide +kernel) (by decide +kernel) h1.tame h1.len.2).up (by omega)
    rw [lines_iff]
    refine ⟨?_, fun y hy => ?_⟩
    · show _ ≤ 3 + 4 * most d
      rw [List.length_cons, List.length_append, List.length_append, ind_len, List.length_singleton]
      split
      · rw [List.length_nil]
        omega
      · rw [List.length_cons, ind_len]
        omega
    · rcases List.mem_cons.mp hy with rfl | hy
      · exact hh
      · rcases List.mem_append.mp hy with hy | hy
        · exact (line_ind ma y hy).up (by omega)
        · rcases List.mem_append.mp hy with hy | hy
          · split at hy
            · exact nomatch hy
            · rcases List.mem_cons.mp hy with rfl | hy
              · exact he
              · exact (line_ind mb y hy).up (by omega)
          · rw [List.mem_singleton.mp hy]
            exact hc
  | d + 1, .rep k a, ⟨h1, h2, la, h4⟩ => by
    obtain ⟨na, ma⟩ := linesL_all (n := most d) (m := 30 + 2 * d) (l := a) fun s m => lines_S d s (h4 s m)
    have na2 : a.length * most d ≤ 2 * most d := Nat.mul_le_mul_right _ la
    have hc : Line (30 + 2 * (d + 1)) ("}" : Str) := (line_lit (m := 1) (by decide +kernel) (by decide +kernel)).up (by omega)
    have hh : Line (30 + 2 * (d + 1)) (headRep k) := (line_head (by decide +kernel) (by decide +kernel) (tame_num h1 h2) (by rw [len_num h1 h2]; decide)).up (by omega)
    rw [lines_rep]
    refine ⟨?_, fun y hy => ?_⟩
    · show _ ≤ 3 + 4 * most d
      rw [List.length_cons, List.length_append, ind_len, List.length_singleton]
      omega
    · rcases List.mem_cons.mp hy with rfl | hy
      · exact hh
      · rcases List.mem_append.mp hy with hy | hy
        · exact (line_ind ma y hy).up (by omega)
        · rw [List.mem_singleton.mp hy]
          exact hc
theorem lines_L {d : Nat} {l : List S} (h : OkL d l) : (linesL l).length ≤ l.length * most d ∧ ∀ x ∈ linesL l, Line (30 + 2 * d) x := linesL_all fun s m => lines_S d s (h s m)
/-! ### a whole program -/
structure Good (rs : List (Str × List S)) (b : List S) : Prop where
  few : rs.length ≤ 3
  names : ∀ r ∈ rs, NameOk r.1 ∧ r.1.length ≠ 15 ∧ r.2.length ≤ 3 ∧ OkL 1 r.2
  nd : (rs.map (·.1)).Nodup
  fewB : b.length ≤ 6
  okB : OkL 2 b
theorem lines_R {r : Str × List S} (h1 : NameOk r.1) (h3 : r.2.length ≤ 3) (h : OkL 1 r.2) : (linesR r).length ≤ 23 ∧ ∀ x ∈ linesR r, Line 34 x := by
  obtain ⟨n, m⟩ := lines_L h
  have e : most 1 = 7 := rfl
  rw [e] at n
  unfold linesR
  refine ⟨?_, fun y hy => ?_⟩
  · rw [List.length_cons, List.length_append, ind_len, List.length_singleton]
    omega
  · rcases List.mem_cons.mp hy with rfl | hy
    · exact (line_head (by decide +kernel) (by decide +kernel) h1.tame h1.len.2).up (by omega)
    · rcases List.mem_append.mp hy with hy | hy
      · exact line_ind m y hy
      · rw [List.mem_singleton.mp hy]
        exact line_lit (by decide +kernel) (by decide +kernel)
theorem lines_Rs : ∀ {rs : List (Str × List S)}, (∀ r ∈ rs, NameOk r.1 ∧ r.2.length ≤ 3 ∧ OkL 1 r.2) → (rs.flatMap linesR).length ≤ 23 * rs.length ∧ ∀ x ∈ rs.flatMap linesR, Line 34 x
  | [], _ => ⟨Nat.zero_le _, fun _ h => nomatch h⟩
  | r :: rs, h => by
    obtain ⟨h1, h3, h4⟩ := h r List.mem_cons_self
    obtain ⟨n, m⟩ := lines_R h1 h3 h4
    obtain ⟨n2, m2⟩ := lines_Rs fun t k => h t (List.mem_cons_of_mem _ k)
    rw [List.flatMap_cons]
    refine ⟨?_, fun x hx => ?_⟩
    · rw [List.length_append, List.length_cons]
      omega
    · rcases List.mem_append.mp hx with q | q
      · exact m x q
      · exact m2 x q
theorem Good.lines {rs : List (Str × List S)} {b : List S} (g : Good rs b) : (linesP rs b).length ≤ 300 ∧ ∀ x ∈ linesP rs b, Line 34 x := by
  obtain ⟨n, m⟩ := lines_L g.okB
  obtain ⟨n2, m2⟩ := lines_Rs fun r k => ⟨(g.names r k).1, (g.names r k).2.2⟩
  have e : most 2 = 31 := rfl
  rw [e] at n
  have := g.few
  have := g.fewB
  unfold linesP
  refine ⟨?_, fun x hx => ?_⟩
  · rw [List.length_append]
    omega
  · rcases List.mem_append.mp hx with q | q
    · exact m2 x q
    · exact m x q
/-! ### the text, and its rows again -/
theorem glue_nil : ∀ l : List Str, cs (Txt.join "" l) = l.flatMap cs := by
  have e0 : cs ("" : Str) = [] := by decide +kernel
  have fold : ∀ (l : List Str) (acc : Array Nat), (l.foldl (fun acc p => acc ++ ("" : Str).cps ++ p.cps) acc).toList = acc.toList ++ l.flatMap cs := by
    intro l
    induction l with
    | nil => intro acc; simp
    | cons p r ih =>
      intro acc
      rw [List.foldl_cons, ih, Array.toList_append, Array.toList_append, List.flatMap_cons]
      have e1 : ("" : Str).cps.toList = [] := e0
      rw [e1, List.append_nil, List.append_assoc]
  intro l
  cases l with
  | nil => decide +kernel
  | cons p r =>
    show (r.foldl (fun acc p => acc ++ ("" : Str).cps ++ p.cps) p.cps).toList = _
    rw [fold]
    rfl
theorem join_endl : ∀ l : List Str, cs (Str.join "\n" (l ++ [Str.empty])) = l.flatMap fun x => cs (endl x)
  | [] => rfl
  | x :: r => by
    obtain ⟨y, t, e⟩ : ∃ y t, r ++ [Str.empty] = y :: t := by cases r <;> exact ⟨_, _, rfl⟩
    have ih := join_endl r
    rw [List.cons_append, e, List.flatMap_cons]
    show cs (x ++ "\n" ++ Str.join "\n" (y :: t)) = _
    rw [← e, cs_app, ih]
    rfl
/-- parts without the sign c, joined by it, tell the parts -/
theorem join_inj {c : Nat} {sep : Str} (hs : cs sep = [c]) : ∀ {p q : List Str}, p ≠ [] → q ≠ [] → (∀ x ∈ p, c ∉ cs x) → (∀ x ∈ q, c ∉ cs x) → cs (Str.join sep p) = cs (Str.join sep q) → p = q
  | [], _, h, _, _, _, _ => absurd rfl h
  | _, [], _, h, _, _, _ => absurd rfl h
  | [x], [y], _, _, _, _, e => by
    have e' : cs x = cs y := e
    rw [sx e']
  | [x], y :: z :: t, _, _, hp, _, e => by
    have e' : cs x = cs (y ++ sep ++ Str.join sep (z :: t)) := e
    rw [cs_app, cs_app, hs] at e'
    exact absurd (by rw [e']; simp) (hp x List.mem_cons_self)
  | x :: w :: r, [y], _, _, _, hq, e => by
    have e' : cs (x ++ sep ++ Str.join sep (w :: r)) = cs y := e
    rw [cs_app, cs_app, hs] at e'
    exact absurd (by rw [← e']; simp) (hq y List.mem_cons_self)
  | x :: w :: r, y :: z :: t, _, _, hp, hq, e => by
    have e' : cs (x ++ sep ++ Str.join sep (w :: r)) = cs (y ++ sep ++ Str.join sep (z :: t)) := e
    rw [cs_app, cs_app, cs_app, cs_app, hs, List.append_assoc, List.append_assoc] at e'
    have key : ∀ (a b u v : List Nat), c ∉ a → c ∉ b → a ++ (c :: u) = b ++ (c :: v) → a = b ∧ u = v := by
      intro a
      induction a with
      | nil =>
        intro b u v _ hb h
        cases b with
        | nil => exact ⟨rfl, (List.cons.inj h).2⟩
        | cons d b' => exact absurd (by rw [(List.cons.inj h).1]; exact List.mem_cons_self) hb
      | cons d a' ih =>
        intro b u v ha hb h
        cases b with
        | nil => exact absurd (by rw [← (List.cons.inj h).1]; exact List.mem_cons_self) ha
        | cons f b' =>
          obtain ⟨e1, e2⟩ := List.cons.inj h
          obtain ⟨e3, e4⟩ := ih b' u v (fun q => ha (List.mem_cons_of_mem _ q)) (fun q => hb (List.mem_cons_of_mem _ q)) e2
          exact ⟨by rw [e1, e3], e4⟩
    obtain ⟨e1, e2⟩ := key _ _ _ _ (hp x List.mem_cons_self) (hq y List.mem_cons_self) e'
    rw [sx e1, join_inj hs (p := w :: r) (q := z :: t) (fun h => nomatch h) (fun h => nomatch h) (fun u m => hp u (List.mem_cons_of_mem _ m)) (fun u m => hq u (List.mem_cons_of_mem _ m)) e2]
theorem split_ne (x y : Str) : Txt.split x y ≠ [] := by
  unfold Txt.split
  split
  · exact fun h => nomatch h
  · split
    · exact fun h => nomatch h
    · rw [StrLaws.partsBetween_eq]
      obtain ⟨p, r, e⟩ := StrLaws.partsFrom_ne x y.length 0 (Builtin.Str.occurrences x y 0 x.length (x.length + 1))
      rw [e]
      exact fun h => nomatch h
theorem rows_again {l : List Str} (h : ∀ x ∈ l, Tame x) : Txt.split (Txt.join "" (l.map endl)) "\n" = l ++ [Str.empty] := by
  have hy : ("\n" : Str) = ⟨#[10]⟩ := by decide +kernel
  have free := StrLaws.split_free (Txt.join "" (l.map endl)) 10
  rw [← hy] at free
  refine join_inj (c := 10) (sep := "\n") cs_nl (split_ne _ _) (by simp) free (fun x hx => ?_) ?_
  · rcases List.mem_append.mp hx with q | q
    · exact fun m => (h x q 10 m).1 rfl
    · rw [List.mem_singleton.mp q]
      exact fun m => nomatch m
  · rw [StrLaws.join_split, join_endl, glue_nil, List.flatMap_map]
theorem no_remark {x : Str} (h : Tame x) : (Txt.partition x "#").1 = x := by
  have hy : ("#" : Str) = ⟨#[35]⟩ := by decide +kernel
  have e : Builtin.Str.occurrences x "#" 0 x.length 1 = [] := by
    have q := StrLaws.found_one x 35
    rw [← hy] at q
    have n : ¬ 35 ∈ x.cps.toList := fun m => (h 35 m).2 rfl
    rw [decide_eq_false n] at q
    cases o : Builtin.Str.occurrences x "#" 0 x.length 1 with
    | nil => rfl
    | cons i r => rw [o] at q; cases q
  unfold Txt.partition
  rw [e]
end K53

/-! K1 -/
/-! the text by places: each def, its scope (printed by wip/gen1.py) -/
namespace K53
open PySem PySem.Spec PyProof.Rows L2
def top (i : Nat) : Stmt := PySem.Challenge.pw_armwarrant_k53_whole_programs_read_back.main.body.getD i (.Pass ⟨0, 0, 0, 0⟩)
abbrev s_copy_statements : Stmt := top 4
theorem sc_copy_statements : FnScope ["statements", "copies", "statement", "first"] ["statements"] (defScope s_copy_statements) := ⟨rfl, rfl, rfl, by decide +kernel, rfl, by decide +kernel, by decide +kernel⟩
def d_copy_statements : He.DefD := ⟨("copy_statements", none), "copy_statements", "copy_statements", defArgs s_copy_statements, defBody s_copy_statements, defScope s_copy_statements, [], []⟩
abbrev s_split_line : Stmt := top 11
theorem sc_split_line : FnScope ["text", "line", "words", "word", "index", "char"] ["text", "line"] (defScope s_split_line) := ⟨rfl, rfl, rfl, by decide +kernel, rfl, by decide +kernel, by decide +kernel⟩
def d_split_line : He.DefD := ⟨("split_line", none), "split_line", "split_line", defArgs s_split_line, defBody s_split_line, defScope s_split_line, [], []⟩
abbrev s_split_words : Stmt := top 12
theorem sc_split_words : FnScope ["text", "words", "line", "row", "bare", "_"] ["text"] (defScope s_split_words) := ⟨rfl, rfl, rfl, by decide +kernel, rfl, by decide +kernel, by decide +kernel⟩
def d_split_words : He.DefD := ⟨("split_words", none), "split_words", "split_words", defArgs s_split_words, defBody s_split_words, defScope s_split_words, [], []⟩
abbrev s_is_name : Stmt := top 13
theorem sc_is_name : FnScope ["word", "char"] ["word"] (defScope s_is_name) := ⟨rfl, rfl, rfl, by decide +kernel, rfl, by decide +kernel, by decide +kernel⟩
def d_is_name : He.DefD := ⟨("is_name", none), "is_name", "is_name", defArgs s_is_name, defBody s_is_name, defScope s_is_name, [], []⟩
abbrev s_read_count : Stmt := top 14
theorem sc_read_count : FnScope ["word", "char"] ["word"] (defScope s_read_count) := ⟨rfl, rfl, rfl, by decide +kernel, rfl, by decide +kernel, by decide +kernel⟩
def d_read_count : He.DefD := ⟨("read_count", none), "read_count", "read_count", defArgs s_read_count, defBody s_read_count, defScope s_read_count, [], []⟩
abbrev s_read_program : Stmt := top 19
theorem sc_read_program : FnScope ["text", "reader", "routines", "body", "may_be_routine"] ["text"] (defScope s_read_program) := ⟨rfl, rfl, rfl, by decide +kernel, rfl, by decide +kernel, by decide +kernel⟩
def d_read_program : He.DefD := ⟨("read_program", none), "read_program", "read_program", defArgs s_read_program, defBody s_read_program, defScope s_read_program, [], []⟩
abbrev s_indent : Stmt := top 21
theorem sc_indent : FnScope ["lines", "line"] ["lines"] (defScope s_indent) := ⟨rfl, rfl, rfl, by decide +kernel, rfl, by decide +kernel, by decide +kernel⟩
def d_indent : He.DefD := ⟨("indent", none), "indent", "indent", defArgs s_indent, defBody s_indent, defScope s_indent, [], []⟩
abbrev s_write_statement : Stmt := top 22
theorem sc_write_statement : FnScope ["statement", "word", "switch", "lines"] ["statement"] (defScope s_write_statement) := ⟨rfl, rfl, rfl, by decide +kernel, rfl, by decide +kernel, by decide +kernel⟩
def d_write_statement : He.DefD := ⟨("write_statement", none), "write_statement", "write_statement", defArgs s_write_statement, defBody s_write_statement, defScope s_write_statement, [], []⟩
abbrev s_write_list : Stmt := top 23
theorem sc_write_list : FnScope ["statements", "lines", "statement"] ["statements"] (defScope s_write_list) := ⟨rfl, rfl, rfl, by decide +kernel, rfl, by decide +kernel, by decide +kernel⟩
def d_write_list : He.DefD := ⟨("write_list", none), "write_list", "write_list", defArgs s_write_list, defBody s_write_list, defScope s_write_list, [], []⟩
abbrev s_write_program : Stmt := top 24
theorem sc_write_program : FnScope ["program", "lines", "name", "statements", "line"] ["program"] (defScope s_write_program) := ⟨rfl, rfl, rfl, by decide +kernel, rfl, by decide +kernel, by decide +kernel⟩
def d_write_program : He.DefD := ⟨("write_program", none), "write_program", "write_program", defArgs s_write_program, defBody s_write_program, defScope s_write_program, [], []⟩
abbrev s_l_number : Stmt := top 26
theorem sc_l_number : FnScope ["_law_script", "_law_k", "_law_cell", "_law_mixed", "_law_again"] ["_law_script", "_law_k"] (defScope s_l_number) := ⟨rfl, rfl, rfl, by decide +kernel, rfl, by decide +kernel, by decide +kernel⟩
def d_l_number : He.DefD := ⟨("_law_number", none), "_law_number", "_law_number", defArgs s_l_number, defBody s_l_number, defScope s_l_number, [], []⟩
abbrev s_l_digits : Stmt := top 27
theorem sc_l_digits : FnScope ["_law_script", "_law_first", "_law_count", "_law_number_here", "_law_k"] ["_law_script", "_law_first", "_law_count"] (defScope s_l_digits) := ⟨rfl, rfl, rfl, by decide +kernel, rfl, by decide +kernel, by decide +kernel⟩
def d_l_digits : He.DefD := ⟨("_law_digits", none), "_law_digits", "_law_digits", defArgs s_l_digits, defBody s_l_digits, defScope s_l_digits, [], []⟩
abbrev s_l_digit : Stmt := top 28
theorem sc_l_digit : FnScope ["_law_digits_here", "_law_many", "_law_value"] ["_law_digits_here", "_law_many"] (defScope s_l_digit) := ⟨rfl, rfl, rfl, by decide +kernel, rfl, by decide +kernel, by decide +kernel⟩
def d_l_digit : He.DefD := ⟨("_law_digit", none), "_law_digit", "_law_digit", defArgs s_l_digit, defBody s_l_digit, defScope s_l_digit, [], []⟩
abbrev s_l_name : Stmt := top 29
theorem sc_l_name : FnScope ["_law_digits_here", "_law_keywords", "_law_letters", "_law_size", "_law_name_here", "_law_k"] ["_law_digits_here"] (defScope s_l_name) := ⟨rfl, rfl, rfl, by decide +kernel, rfl, by decide +kernel, by decide +kernel⟩
def d_l_name : He.DefD := ⟨("_law_name", none), "_law_name", "_law_name", defArgs s_l_name, defBody s_l_name, defScope s_l_name, [], []⟩
abbrev s_l_names : Stmt := top 30
theorem sc_l_names : FnScope ["_law_digits_here", "_law_count", "_law_names_here", "_law_k", "_law_first", "_law_name_here", "_law_turn"] ["_law_digits_here", "_law_count"] (defScope s_l_names) := ⟨rfl, rfl, rfl, by decide +kernel, rfl, by decide +kernel, by decide +kernel⟩
def d_l_names : He.DefD := ⟨("_law_names", none), "_law_names", "_law_names", defArgs s_l_names, defBody s_l_names, defScope s_l_names, [], []⟩
abbrev s_l_plain : Stmt := top 31
theorem sc_l_plain : FnScope ["_law_digits_here", "_law_names_here", "_law_kind", "_law_name_here"] ["_law_digits_here", "_law_names_here"] (defScope s_l_plain) := ⟨rfl, rfl, rfl, by decide +kernel, rfl, by decide +kernel, by decide +kernel⟩
def d_l_plain : He.DefD := ⟨("_law_plain", none), "_law_plain", "_law_plain", defArgs s_l_plain, defBody s_l_plain, defScope s_l_plain, [], []⟩
abbrev s_l_statements : Stmt := top 32
theorem sc_l_statements : FnScope ["_law_digits_here", "_law_names_here", "_law_calls", "_law_depth", "_law_most", "_law_statements_here", "_law_k", "_law_kind", "_law_name_here", "_law_first", "_law_second", "_law_count"] ["_law_digits_here", "_law_names_here", "_law_calls", "_law_depth", "_law_most"] (defScope s_l_statements) := ⟨rfl, rfl, rfl, by decide +kernel, rfl, by decide +kernel, by decide +kernel⟩
def d_l_statements : He.DefD := ⟨("_law_statements", none), "_law_statements", "_law_statements", defArgs s_l_statements, defBody s_l_statements, defScope s_l_statements, [], []⟩
abbrev s_l_routines : Stmt := top 33
theorem sc_l_routines : FnScope ["_law_digits_here", "_law_names_here", "_law_count", "_law_routines_here", "_law_titles", "_law_k"] ["_law_digits_here", "_law_names_here", "_law_count"] (defScope s_l_routines) := ⟨rfl, rfl, rfl, by decide +kernel, rfl, by decide +kernel, by decide +kernel⟩
def d_l_routines : He.DefD := ⟨("_law_routines", none), "_law_routines", "_law_routines", defArgs s_l_routines, defBody s_l_routines, defScope s_l_routines, [], []⟩
abbrev s_l_lines : Stmt := top 34
theorem sc_l_lines : FnScope ["_law_statements_here", "_law_indent", "_law_lines_here", "_law_statement", "_law_line", "_law_switch"] ["_law_statements_here", "_law_indent"] (defScope s_l_lines) := ⟨rfl, rfl, rfl, by decide +kernel, rfl, by decide +kernel, by decide +kernel⟩
def d_l_lines : He.DefD := ⟨("_law_lines", none), "_law_lines", "_law_lines", defArgs s_l_lines, defBody s_l_lines, defScope s_l_lines, [], []⟩
abbrev s_l_written : Stmt := top 35
theorem sc_l_written : FnScope ["_law_routines_here", "_law_body", "_law_lines_here", "_law_name_here", "_law_statements_here", "_law_line"] ["_law_routines_here", "_law_body"] (defScope s_l_written) := ⟨rfl, rfl, rfl, by decide +kernel, rfl, by decide +kernel, by decide +kernel⟩
def d_l_written : He.DefD := ⟨("_law_written", none), "_law_written", "_law_written", defArgs s_l_written, defBody s_l_written, defScope s_l_written, [], []⟩
abbrev s_l_small : Stmt := top 36
theorem sc_l_small : FnScope ["_law_digits_here", "_law_names_here", "_law_routines_here", "_law_body", "_law_k", "_law_name_here", "_law_inner"] ["_law_digits_here"] (defScope s_l_small) := ⟨rfl, rfl, rfl, by decide +kernel, rfl, by decide +kernel, by decide +kernel⟩
def d_l_small : He.DefD := ⟨("_law_small", none), "_law_small", "_law_small", defArgs s_l_small, defBody s_l_small, defScope s_l_small, [], []⟩
abbrev s_law : Stmt := top 37
theorem sc_law : FnScope ["_law_script", "_law_digits_here", "_law_routines_here", "_law_body", "_law_text", "_law_kept", "_law_program", "_law_actual", "_law_other", "_law_name_here", "_law_statements_here"] ["_law_script"] (defScope s_law) := ⟨rfl, rfl, rfl, by decide +kernel, rfl, by decide +kernel, by decide +kernel⟩
def d_law : He.DefD := ⟨("law", none), "law", "law", defArgs s_law, defBody s_law, defScope s_law, [], []⟩
abbrev s_P_init : Stmt := inClass (top 5) 0
theorem sc_P_init : FnScope ["self", "routines", "body", "name", "statements"] ["self", "routines", "body"] (defScope s_P_init) := ⟨rfl, rfl, rfl, by decide +kernel, rfl, by decide +kernel, by decide +kernel⟩
def d_P_init : He.DefD := ⟨("Program", some "__init__"), "__init__", "Program.__init__", defArgs s_P_init, defBody s_P_init, defScope s_P_init, [], []⟩
abbrev s_P_routine : Stmt := inClass (top 5) 1
theorem sc_P_routine : FnScope ["self", "name", "other", "statements"] ["self", "name"] (defScope s_P_routine) := ⟨rfl, rfl, rfl, by decide +kernel, rfl, by decide +kernel, by decide +kernel⟩
def d_P_routine : He.DefD := ⟨("Program", some "routine"), "routine", "Program.routine", defArgs s_P_routine, defBody s_P_routine, defScope s_P_routine, [], []⟩
abbrev s_P_eq : Stmt := inClass (top 5) 2
theorem sc_P_eq : FnScope ["self", "other"] ["self", "other"] (defScope s_P_eq) := ⟨rfl, rfl, rfl, by decide +kernel, rfl, by decide +kernel, by decide +kernel⟩
def d_P_eq : He.DefD := ⟨("Program", some "__eq__"), "__eq__", "Program.__eq__", defArgs s_P_eq, defBody s_P_eq, defScope s_P_eq, [], []⟩
abbrev s_R_init : Stmt := inClass (top 18) 0
theorem sc_R_init : FnScope ["self", "words"] ["self", "words"] (defScope s_R_init) := ⟨rfl, rfl, rfl, by decide +kernel, rfl, by decide +kernel, by decide +kernel⟩
def d_R_init : He.DefD := ⟨("Reader", some "__init__"), "__init__", "Reader.__init__", defArgs s_R_init, defBody s_R_init, defScope s_R_init, [], []⟩
abbrev s_R_is_done : Stmt := inClass (top 18) 1
theorem sc_R_is_done : FnScope ["self"] ["self"] (defScope s_R_is_done) := ⟨rfl, rfl, rfl, by decide +kernel, rfl, by decide +kernel, by decide +kernel⟩
def d_R_is_done : He.DefD := ⟨("Reader", some "is_done"), "is_done", "Reader.is_done", defArgs s_R_is_done, defBody s_R_is_done, defScope s_R_is_done, [], []⟩
abbrev s_R_peek : Stmt := inClass (top 18) 2
theorem sc_R_peek : FnScope ["self", "word", "_"] ["self"] (defScope s_R_peek) := ⟨rfl, rfl, rfl, by decide +kernel, rfl, by decide +kernel, by decide +kernel⟩
def d_R_peek : He.DefD := ⟨("Reader", some "peek"), "peek", "Reader.peek", defArgs s_R_peek, defBody s_R_peek, defScope s_R_peek, [], []⟩
abbrev s_R_take : Stmt := inClass (top 18) 4
theorem sc_R_take : FnScope ["self", "word", "_"] ["self"] (defScope s_R_take) := ⟨rfl, rfl, rfl, by decide +kernel, rfl, by decide +kernel, by decide +kernel⟩
def d_R_take : He.DefD := ⟨("Reader", some "take"), "take", "Reader.take", defArgs s_R_take, defBody s_R_take, defScope s_R_take, [], []⟩
abbrev s_R_take_name : Stmt := inClass (top 18) 5
theorem sc_R_take_name : FnScope ["self"] ["self"] (defScope s_R_take_name) := ⟨rfl, rfl, rfl, by decide +kernel, rfl, by decide +kernel, by decide +kernel⟩
def d_R_take_name : He.DefD := ⟨("Reader", some "take_name"), "take_name", "Reader.take_name", defArgs s_R_take_name, defBody s_R_take_name, defScope s_R_take_name, [], []⟩
abbrev s_R_take_switch : Stmt := inClass (top 18) 6
theorem sc_R_take_switch : FnScope ["self"] ["self"] (defScope s_R_take_switch) := ⟨rfl, rfl, rfl, by decide +kernel, rfl, by decide +kernel, by decide +kernel⟩
def d_R_take_switch : He.DefD := ⟨("Reader", some "take_switch"), "take_switch", "Reader.take_switch", defArgs s_R_take_switch, defBody s_R_take_switch, defScope s_R_take_switch, [], []⟩
abbrev s_R_take_count : Stmt := inClass (top 18) 7
theorem sc_R_take_count : FnScope ["self", "count"] ["self"] (defScope s_R_take_count) := ⟨rfl, rfl, rfl, by decide +kernel, rfl, by decide +kernel, by decide +kernel⟩
def d_R_take_count : He.DefD := ⟨("Reader", some "take_count"), "take_count", "Reader.take_count", defArgs s_R_take_count, defBody s_R_take_count, defScope s_R_take_count, [], []⟩
abbrev s_R_open_brace : Stmt := inClass (top 18) 8
theorem sc_R_open_brace : FnScope ["self"] ["self"] (defScope s_R_open_brace) := ⟨rfl, rfl, rfl, by decide +kernel, rfl, by decide +kernel, by decide +kernel⟩
def d_R_open_brace : He.DefD := ⟨("Reader", some "open_brace"), "open_brace", "Reader.open_brace", defArgs s_R_open_brace, defBody s_R_open_brace, defScope s_R_open_brace, [], []⟩
abbrev s_R_read_block : Stmt := inClass (top 18) 9
theorem sc_R_read_block : FnScope ["self", "statements"] ["self"] (defScope s_R_read_block) := ⟨rfl, rfl, rfl, by decide +kernel, rfl, by decide +kernel, by decide +kernel⟩
def d_R_read_block : He.DefD := ⟨("Reader", some "read_block"), "read_block", "Reader.read_block", defArgs s_R_read_block, defBody s_R_read_block, defScope s_R_read_block, [], []⟩
abbrev s_R_read_statement : Stmt := inClass (top 18) 10
theorem sc_R_read_statement : FnScope ["self", "expected", "word", "count"] ["self", "expected"] (defScope s_R_read_statement) := ⟨rfl, rfl, rfl, by decide +kernel, rfl, by decide +kernel, by decide +kernel⟩
def d_R_read_statement : He.DefD := ⟨("Reader", some "read_statement"), "read_statement", "Reader.read_statement", defArgs s_R_read_statement, defBody s_R_read_statement, defScope s_R_read_statement, [], []⟩
abbrev s_R_read_plain : Stmt := inClass (top 18) 11
theorem sc_R_read_plain : FnScope ["self", "word", "name"] ["self", "word"] (defScope s_R_read_plain) := ⟨rfl, rfl, rfl, by decide +kernel, rfl, by decide +kernel, by decide +kernel⟩
def d_R_read_plain : He.DefD := ⟨("Reader", some "read_plain"), "read_plain", "Reader.read_plain", defArgs s_R_read_plain, defBody s_R_read_plain, defScope s_R_read_plain, [], []⟩
abbrev s_R_read_if : Stmt := inClass (top 18) 12
theorem sc_R_read_if : FnScope ["self", "name", "first", "second"] ["self"] (defScope s_R_read_if) := ⟨rfl, rfl, rfl, by decide +kernel, rfl, by decide +kernel, by decide +kernel⟩
def d_R_read_if : He.DefD := ⟨("Reader", some "read_if"), "read_if", "Reader.read_if", defArgs s_R_read_if, defBody s_R_read_if, defScope s_R_read_if, [], []⟩
abbrev s_R_read_routine : Stmt := inClass (top 18) 13
theorem sc_R_read_routine : FnScope ["self", "names", "name"] ["self", "names"] (defScope s_R_read_routine) := ⟨rfl, rfl, rfl, by decide +kernel, rfl, by decide +kernel, by decide +kernel⟩
def d_R_read_routine : He.DefD := ⟨("Reader", some "read_routine"), "read_routine", "Reader.read_routine", defArgs s_R_read_routine, defBody s_R_read_routine, defScope s_R_read_routine, [], []⟩
abbrev s_R_read_routines : Stmt := inClass (top 18) 14
theorem sc_R_read_routines : FnScope ["self", "routines", "name", "_"] ["self"] (defScope s_R_read_routines) := ⟨rfl, rfl, rfl, by decide +kernel, rfl, by decide +kernel, by decide +kernel⟩
def d_R_read_routines : He.DefD := ⟨("Reader", some "read_routines"), "read_routines", "Reader.read_routines", defArgs s_R_read_routines, defBody s_R_read_routines, defScope s_R_read_routines, [], []⟩
def fns : List He.DefD := [d_copy_statements, d_split_line, d_split_words, d_is_name, d_read_count, d_read_program, d_indent, d_write_statement, d_write_list, d_write_program, d_l_number, d_l_digits, d_l_digit, d_l_name, d_l_names, d_l_plain, d_l_statements, d_l_routines, d_l_lines, d_l_written, d_l_small, d_law, d_P_init, d_P_routine, d_P_eq, d_R_init, d_R_is_done, d_R_peek, d_R_take, d_R_take_name, d_R_take_switch, d_R_take_count, d_R_open_brace, d_R_read_block, d_R_read_statement, d_R_read_plain, d_R_read_if, d_R_read_routine, d_R_read_routines]
end K53

/-! KR -/
/-! rules of our own: enumerate of a text, of a list from 1; repr of data; == by an own __eq__ with any right side -/
namespace K53
open PySem PySem.Spec PyProof.Rows L2
/-! ### enumerate(text) -/
def Ites (x : Str) : It := ⟨fun i _ => i < x.cps.size, fun i H v H' => ∃ T c, x.cps[i]? = some c ∧ v = .ref T ∧ H T = none ∧ H' = upd H T (.tup [.int (i : Nat), .str ⟨#[c]⟩]), fun i _ => x.cps.size ≤ i⟩
theorem turn_es {P : Program} {w : World} {K : PySem.W.Frag} {elts : List Expr} {kk : Nat} {tpos : Pos} (x : Str) (t : Tok) (e it : Addr) :
    Turn P w K (.Tuple elts kk tpos) (Ites x) [e, it] e (fun i h => (∃ old, IsEnum h e it ((i : Nat) : Int) old) ∧ h.IsStrIter it (strIterType x) x t i ∧ e ≠ it) where
  mem := List.mem_cons_self
  obj := fun i h st b hb => by
    obtain ⟨⟨old, he⟩, ⟨o, ho, _, hd⟩, _⟩ := st
    rcases List.mem_cons.mp hb with z | z
    · rw [z]
      exact ⟨_, he, fun v q => nomatch q⟩
    · rw [List.mem_singleton.mp z]
      exact ⟨o, ho, fun v q => by rw [hd] at q; cases q⟩
  keep := fun i h h' st k => by
    obtain ⟨⟨old, he⟩, ⟨o, ho, r⟩, hne⟩ := st
    exact ⟨⟨old, k e List.mem_cons_self _ he⟩, ⟨o, k it (List.mem_cons_of_mem _ List.mem_cons_self) o ho, r⟩, hne⟩
  item := by
    intro X hP hw hK hc i pins s σ H E I hf st hg
    subst hP hw hK
    obtain ⟨⟨old, he⟩, hit, hne⟩ := st
    have hlt : i < x.cps.size := hg
    have el : e < s.heap.objs.size := Heap.lt_size he
    have il : it < s.heap.objs.size := by
      obtain ⟨_, q, _⟩ := hit
      exact Heap.lt_size q
    have hcl : X.A.in1.handled = none := I.ok.hd hc
    have eif : e ∉ [it] := fun z => hne (List.mem_singleton.mp z)
    refine wpAny_pyNext_enum_itemC (Draws.text hcl it x t) he hit hlt hne eif fun u h1 tk hP ho hit1 hT hz hk => ?_
    obtain ⟨c, tu, hx, rfl⟩ := hP
    refine ⟨_, rfl, wpAny_letOwnedTupleGo_enum (s := { s with heap := h1, toks := tk + 1 }) ho fun h2 he2 sb => ?_⟩
    have hT2 := (sb.2 s.heap.objs.size (Nat.ne_of_gt el)).trans hT
    have made : ObjOk X.prog X.w (upd H s.heap.objs.size (.tup [.int (i : Nat), .str ⟨#[c]⟩])) h2 s.heap.objs.size (.tup [.int (i : Nat), .str ⟨#[c]⟩]) :=
      ⟨by show 2 ≤ sizeLine; decide, _, .cons ⟨_, rfl⟩ (.cons ⟨_, rfl⟩ .nil), ⟨_, hT2, rfl, _, rfl⟩⟩
    have J : Inv X pins σ (upd H s.heap.objs.size (.tup [.int (i : Nat), .str ⟨#[c]⟩])) { s with heap := h2, toks := tk + 1 } :=
      I.turnedNew (ch := [e, it]) (fun b ob hb q => (sb.2 b fun z => hb (by simp [z])).trans (hk b ob (fun z => hb (by simp [z])) (fun z => hb (by simp [z])) q)) hf (Nat.le_refl _) made
    refine ⟨.ref s.heap.objs.size, _, J, rfl, ⟨_, c, hx, rfl, I.hok.fresh (Nat.le_refl _), rfl⟩, ⟨⟨.str ⟨#[c]⟩ tu, ?_⟩, ?_, hne⟩, fun b hb => ?_⟩
    · rw [show ((i + 1 : Nat) : Int) = (i : Int) + 1 by omega]
      exact he2
    · obtain ⟨o, q, r⟩ := hit1
      exact ⟨o, (sb.2 it (Ne.symm hne)).trans q, r⟩
    · have hb' : b < s.heap.objs.size := by
        rcases List.mem_cons.mp hb with z | z
        · rw [z]; exact el
        · rw [List.mem_singleton.mp z]; exact il
      rw [upd_ne (Nat.ne_of_lt hb')]
      exact (hf b hb).1
  done := by
    intro X hP hw hK hc i pins s σ H E I hf st hg
    subst hP hw hK
    obtain ⟨⟨old, he⟩, hit, hne⟩ := st
    have hge : x.cps.size ≤ i := hg
    obtain ⟨f0, f1, f2, f3, f4, f5⟩ := hf it (List.mem_cons_of_mem _ List.mem_cons_self)
    have hcl : X.A.in1.handled = none := I.ok.hd hc
    have fin : ∀ {n : Nat} {Pz : Nat → Value → Prop} {Sz : Nat → Heap → Prop} {fp : List Addr}, Draws X.prog X.w X.A.in1 it fp n Pz Sz → Sz n s.heap →
        wpAny (model X.prog X.w) X.A (pyNext (.ref e)) (fun r s1 => r = none ∧ Inv X pins σ H s1) E s := fun D hs =>
      wpAny_pyNext_enum_endD D he hs fun h' eb => ⟨rfl, I.turned (t' := s.toks) (fun b o hb q => eb b o hb q) f0 f1 f3 f4 f5⟩
    -- the iterator stands at the end or behind it: it is asked as one that has come to the end
    obtain ⟨o, ho, hcls, hdt⟩ := id hit
    have en : x.cps[i]? = none := by simp; omega
    cases ha : x.cps.all (· < 128) with
    | true =>
      have ety : strIterType x = "str_ascii_iterator" := by simp [strIterType, ha]
      rw [ety] at hit
      refine fin (n := i) (Pz := fun _ _ => True) (Sz := fun j h => j = i ∧ h.IsStrIter it "str_ascii_iterator" x t i) (fp := [it]) ⟨fun j h st => let ⟨_, o, ho, _⟩ := st; ⟨o, ho⟩, fun j h h' st hk => ?_, fun j s' Q E' hj st _ => ?_, fun s' Q E' st hE => wpAny_nextOf_ascii_end hcl st.2 en hE⟩ ⟨rfl, hit⟩
      · obtain ⟨ej, o, ho, r⟩ := st
        exact ⟨ej, o, hk it List.mem_cons_self o ho, r⟩
      · exact absurd st.1 (Nat.ne_of_lt hj)
    | false =>
      have ety : strIterType x = "str_iterator" := by simp [strIterType, ha]
      rw [ety] at hit
      refine fin (n := i) (Pz := fun _ _ => True) (Sz := fun j h => j = i ∧ h.IsStrIter it "str_iterator" x t i) (fp := [it]) ⟨fun j h st => let ⟨_, o, ho, _⟩ := st; ⟨o, ho⟩, fun j h h' st hk => ?_, fun j s' Q E' hj st _ => ?_, fun s' Q E' st hE => wpAny_nextOf_wide_end hcl st.2 en hE⟩ ⟨rfl, hit⟩
      · obtain ⟨ej, o, ho, r⟩ := st
        exact ⟨ej, o, hk it List.mem_cons_self o ho, r⟩
      · exact absurd st.1 (Nat.ne_of_lt hj)
  self := fun A i s Q E st h => let ⟨⟨_, he⟩, _⟩ := st; wpAny_pyIter_enum he h

def iEnumS (ta : TA) : TI := fun σ H R => ta σ H fun vs H1 => ∃ x : Str, vs = [.str x] ∧ R (Ites x) H1
theorem pi_enumS {X : Cx} {e : Expr} {ta : TA} {p pos tpos : Pos} {elts : List Expr} {kk : Nat} (hg : Gl X "enumerate") (hm : X.mg "enumerate" = none) (ha : PA X [e] ta) (hs : starEach [e] X.env = [(false, eval e X.env)] := by rfl) :
    PI X (.Tuple elts kk tpos) (.Call (.Name "enumerate" p) [e] [] pos) (iEnumS ta) := by
  refine ⟨fun pins s σ H R I h => Call_ (ld_blt I hg hm boot_enumerate (PyProof.Rows.callWith_type1 (thn (ha.run pos pins s σ H _ I h) fun us s1 hq => ?_) hs rfl))⟩
  obtain ⟨vs, H1, I1, r1, x, ex, q⟩ := hq
  subst ex
  obtain ⟨u, rfl, t, rfl⟩ := vals1 r1
  refine call_enumerate_str fun h' he hit hz hk => wpAny_pyIter_enum he ?_
  refine ⟨s1.heap.objs.size + 1, [s1.heap.objs.size + 1, s1.heap.objs.size], _, _, H1, rfl, I1.kept (t' := s1.toks) hk, turn_es x t (s1.heap.objs.size + 1) s1.heap.objs.size, ⟨⟨.none, he⟩, hit, Nat.succ_ne_self _⟩, fun b hb => ?_, q⟩
  have hle : s1.heap.objs.size ≤ b := by
    rcases List.mem_cons.mp hb with z | z
    · rw [z]; exact Nat.le_succ _
    · rw [List.mem_singleton.mp z]; exact Nat.le_refl _
  exact I1.fpOk hle (I1.hok.fresh hle)
/-! ### enumerate(list, start=k) -/
def Itek (K : PySem.W.Frag) (a : Addr) (k : Int) : It :=
  ⟨fun i H => ∃ (xs : List V) (x : V), SqL K H a xs ∧ xs[i]? = some x, fun i H v H' => ∃ T x, v = .ref T ∧ H T = none ∧ H' = upd H T (.tup [.int (k + (i : Nat)), x]) ∧ ∀ xs, SqL K H a xs → xs[i]? = some x, fun i H => ∃ xs : List V, SqL K H a xs ∧ xs.length ≤ i⟩
theorem turn_ek {P : Program} {w : World} {K : PySem.W.Frag} {elts : List Expr} {kk : Nat} {tpos : Pos} (k : Int) (a e it : Addr) :
    Turn P w K (.Tuple elts kk tpos) (Itek K a k) [e, it] e (fun i h => (∃ old, IsEnum h e it (k + ((i : Nat) : Int)) old) ∧ h.IsListIter it a i ∧ e ≠ it ∧ a ≠ e ∧ a ≠ it) where
  mem := List.mem_cons_self
  obj := fun i h st b hb => by
    obtain ⟨⟨old, he⟩, ⟨o, ho, _, hd⟩, _⟩ := st
    rcases List.mem_cons.mp hb with z | z
    · rw [z]
      exact ⟨_, he, fun v q => nomatch q⟩
    · rw [List.mem_singleton.mp z]
      exact ⟨o, ho, fun v q => by rw [hd] at q; cases q⟩
  keep := fun i h h' st k => by
    obtain ⟨⟨old, he⟩, ⟨o, ho, r⟩, hne⟩ := st
    exact ⟨⟨old, k e List.mem_cons_self _ he⟩, ⟨o, k it (List.mem_cons_of_mem _ List.mem_cons_self) o ho, r⟩, hne⟩
  item := by
    intro X hP hw hK hc i pins s σ H E I hf st hg
    subst hP hw hK
    obtain ⟨⟨old, he⟩, hit, hne, hae, hai⟩ := st
    obtain ⟨xs, x, hq, hx⟩ := hg
    obtain ⟨its, rv, p, hz0⟩ := I.list hq
    obtain ⟨u0, hu0, ru⟩ := rv.get hx
    have hlt : i < its.toArray.size := by
      have := (List.getElem?_eq_some_iff.mp hu0).1
      simpa using this
    have el : e < s.heap.objs.size := Heap.lt_size he
    have il : it < s.heap.objs.size := by
      obtain ⟨_, q, _⟩ := hit
      exact Heap.lt_size q
    have hcl : X.A.in1.handled = none := I.ok.hd hc
    have eif : e ∉ [it, a] := fun z => by
      rcases List.mem_cons.mp z with z | z
      · exact hne z
      · exact hae (List.mem_singleton.mp z).symm
    refine wpAny_pyNext_enum_itemC (Draws.list hcl it a hai its.toArray) he ⟨hit, p.isList⟩ hlt hne eif fun u h1 tk hP ho hit1 hT hz hk => ?_
    have eu : u = u0 := by
      have q : its[i]? = some u := by simpa using hP
      exact Option.some.inj (q.symm.trans hu0)
    subst eu
    refine ⟨_, rfl, wpAny_letOwnedTupleGo_enum (s := { s with heap := h1, toks := tk + 1 }) ho fun h2 he2 sb => ?_⟩
    have hT2 := (sb.2 s.heap.objs.size (Nat.ne_of_gt el)).trans hT
    have made : ObjOk X.prog X.w (upd H s.heap.objs.size (.tup [.int (k + (i : Nat)), x])) h2 s.heap.objs.size (.tup [.int (k + (i : Nat)), x]) :=
      ⟨by show 2 ≤ sizeLine; decide, _, .cons ⟨_, rfl⟩ (.cons ru .nil), ⟨_, hT2, rfl, _, rfl⟩⟩
    have J : Inv X pins σ (upd H s.heap.objs.size (.tup [.int (k + (i : Nat)), x])) { s with heap := h2, toks := tk + 1 } :=
      I.turnedNew (ch := [e, it]) (fun b ob hb q => (sb.2 b fun z => hb (by simp [z])).trans (hk b ob (fun z => hb (by simp [z])) (fun z => hb (by simp [z])) q)) hf (Nat.le_refl _) made
    refine ⟨.ref s.heap.objs.size, _, J, rfl, ⟨_, x, rfl, I.hok.fresh (Nat.le_refl _), rfl, fun ys hy => by rw [I.list_inj hy hq]; exact hx⟩, ⟨⟨u, ?_⟩, ?_, hne, hae, hai⟩, fun b hb => ?_⟩
    · rw [show k + ((i + 1 : Nat) : Int) = k + (i : Int) + 1 by omega]
      exact he2
    · obtain ⟨o, q, r⟩ := hit1.1
      exact ⟨o, (sb.2 it (Ne.symm hne)).trans q, r⟩
    · have hb' : b < s.heap.objs.size := by
        rcases List.mem_cons.mp hb with z | z
        · rw [z]; exact el
        · rw [List.mem_singleton.mp z]; exact il
      rw [upd_ne (Nat.ne_of_lt hb')]
      exact (hf b hb).1
  done := by
    intro X hP hw hK hc i pins s σ H E I hf st hg
    subst hP hw hK
    obtain ⟨⟨old, he⟩, hit, hne, hae, hai⟩ := st
    obtain ⟨xs, hq, hx⟩ := hg
    obtain ⟨its, rv, p, hz0⟩ := I.list hq
    have hcl : X.A.in1.handled = none := I.ok.hd hc
    obtain ⟨f0, f1, f2, f3, f4, f5⟩ := hf it (List.mem_cons_of_mem _ List.mem_cons_self)
    have hl := rv.length
    have en : its.toArray[i]? = none := by simp; omega
    refine wpAny_pyNext_enum_endD (n := i) (P := fun _ _ => True) (St := fun j h => j = i ∧ h.IsListIter it a i ∧ h.IsList a its.toArray) (fp := [it, a]) ⟨fun j h st => let ⟨_, ⟨o, ho, _⟩, _⟩ := st; ⟨o, ho⟩, fun j h h' st hk => ?_, fun j s' Q E' hj st _ => absurd st.1 (Nat.ne_of_lt hj), fun s' Q E' st hE => wpAny_nextOf_list_end hcl st.2.1 st.2.2 en hE⟩ he ⟨rfl, hit, p.isList⟩
      fun h' eb => ⟨rfl, I.turned (t' := s.toks) (fun b o hb q => eb b o hb q) f0 f1 f3 f4 f5⟩
    obtain ⟨ej, ⟨o, ho, r⟩, hl⟩ := st
    exact ⟨ej, ⟨o, hk it List.mem_cons_self o ho, r⟩, hl.at fun o e => hk a (List.mem_cons_of_mem _ List.mem_cons_self) o e⟩
  self := fun A i s Q E st h => let ⟨⟨_, he⟩, _⟩ := st; wpAny_pyIter_enum he h
def iEnumK (K : PySem.W.Frag) (k : Int) (ta : TA) : TI := fun σ H R => ta σ H fun vs H1 => ∃ a xs, vs = [.ref a] ∧ SqL K H1 a xs ∧ R (Itek K a k) H1
theorem pi_enumK {X : Cx} {e : Expr} {ta : TA} {p pos tpos kpos cpos : Pos} {elts : List Expr} {kk j : Nat} {k : Int} (hk0 : -(2 ^ 63) ≤ k) (hk1 : k < 2 ^ 63) (hg : Gl X "enumerate") (hm : X.mg "enumerate" = none) (ha : PA X [e] ta)
    (he : starEach [e] X.env = (false, eval e X.env) :: starEach [] X.env := by rfl)
    (hall : (backToKw pos (keywordEach [⟨some "start", .Constant (.int k) j cpos, kpos⟩] X.env)).all (·.1.isSome) = true := by rfl)
    (hpl : ((backTo pos (starEach [e] X.env)).any (·.1) || (backToKw pos (keywordEach [⟨some "start", .Constant (.int k) j cpos, kpos⟩] X.env)).any (·.1.isNone)) = false := by rfl)
    (hks : (backToKw pos (keywordEach [⟨some "start", .Constant (.int k) j cpos, kpos⟩] X.env)).filterMap (·.1) = [Str.ofString "start"] := by rfl) :
    PI X (.Tuple elts kk tpos) (.Call (.Name "enumerate" p) [e] [⟨some "start", .Constant (.int k) j cpos, kpos⟩] pos) (iEnumK X.K k ta) := by
  have hK : PK X [⟨some "start", .Constant (.int k) j cpos, kpos⟩] (tCons (tC (.int k)) tNil) := pk_cons pe_int pk_nil
  refine ⟨fun pins s σ H R I h => wpAny_Call_Name_kw (ld_blt I hg hm boot_enumerate ?_)⟩
  refine PySem.W.callWith_of (first := []) (P := fun _ => True) hpl (fun h _ => ⟨.machine, .inr (.inl rfl), PySem.W.Looks.of_pure rfl⟩) (PyProof.Rows.evalArgs_kw2 hall (thn (ha.run pos pins s σ H _ I h) fun us s1 hq => ?_) he)
  obtain ⟨vs, H1, I1, r1, a, xs, ex, hs, q⟩ := hq
  subst ex
  refine thn (hK.run pos pins s1 σ H1 (fun zs H2 => zs = [.int k] ∧ H2 = H1) I1 ⟨rfl, rfl⟩) fun ws s2 hw => ⟨trivial, ?_⟩
  obtain ⟨zs, H2, I2, r2, ez, eh⟩ := hw
  subst ez eh
  obtain ⟨u, rfl, ru⟩ := vals1 r1
  cases ru
  obtain ⟨tw, rfl, t, rfl⟩ := vals1 r2
  obtain ⟨its, rv, p', hz0⟩ := I2.list hs
  rw [hks]
  have al : a < s2.heap.objs.size := by
    obtain ⟨o, n, ho, _⟩ := p'
    exact Heap.lt_size ho
  refine enum_begins_start (begins_list a its.toArray) p'.isList hk0 hk1 fun h' he' hit hz hkp => wpAny_pyIter_enum he' ?_
  refine ⟨s2.heap.objs.size + 1, [s2.heap.objs.size + 1, s2.heap.objs.size], _, _, H2, rfl, I2.kept (t' := s2.toks) hkp, turn_ek k a (s2.heap.objs.size + 1) s2.heap.objs.size, ⟨⟨.none, ?_⟩, ⟨_, hit, rfl, rfl⟩, Nat.succ_ne_self _, Nat.ne_of_lt (Nat.lt_succ_of_lt al), Nat.ne_of_lt al⟩, fun b hb => ?_, q⟩
  · rw [show k + ((0 : Nat) : Int) = k by omega]
    exact he'
  · have hle : s2.heap.objs.size ≤ b := by
      rcases List.mem_cons.mp hb with z | z
      · rw [z]; exact Nat.le_succ _
      · rw [List.mem_singleton.mp z]; exact Nat.le_refl _
    exact I2.fpOk hle (I2.hok.fresh hle)
/-! ### repr of data -/
def rRepr (K : PySem.W.Frag) : List V → Hp → VK → Prop := fun xs H Q => ∃ (a : Addr) (d : PyData), xs = [.ref a] ∧ Dp K H (.ref a) d ∧ SeqAt.shaped d = true ∧ d.showable = true ∧ d.shown.length ≤ sizeLine ∧ Q (.str d.shown) H
theorem call_reprD {X : Cx} (hg : X.A.guards = some []) (hu : X.A.units + 66 < cLine) : CallR X (.builtin "repr") (rRepr X.K) := by
  intro pins s σ H xs us Q I r h
  obtain ⟨a, d, rfl, hd, sd, hs, hz, q⟩ := h
  obtain ⟨u, rfl, ru⟩ := vals1 r
  cases ru
  obtain ⟨as, rd⟩ := Dp.reads I d _ _ hd rfl
  have dd := SeqAt.depth_of_shaped sd
  refine repr_of_reads' rd hs (PyData.noDict_hsm (PyData.hasDict_of_canLay d (SeqAt.canLay_of_shaped sd))) hg (by omega) (fun _ _ e => e) (fun h' u tk hk => ?_) hz
  exact ⟨.str d.shown, H, I.kept (t' := tk) hk, ⟨u, rfl⟩, q⟩
/-! ### == by an own __eq__, whatever stands on the right -/
theorem back_of {P : Value → Shared → Prop} {z : V} {v : Value} {s' : Shared} (r : RelV z v) (h : P v s') : PySem.W.CmpBack P v s' := by
  cases z with
  | non => cases (show v = Value.none from r); exact h
  | bl b => cases (show v = Value.bool b from r); exact h
  | int i => obtain ⟨t, e⟩ := (show ∃ t, v = Value.int i t from r); cases e; exact h
  | str x => obtain ⟨t, e⟩ := (show ∃ t, v = Value.str x t from r); cases e; exact h
  | byt b => obtain ⟨t, e⟩ := (show ∃ t, v = Value.bytes b t from r); cases e; exact h
  | flt b => obtain ⟨t, e⟩ := (show ∃ t, v = Value.float b t from r); cases e; exact h
  | ref a => cases (show v = Value.ref a from r); exact h
  | ty n => cases (show v = Value.type n from r); exact h
/-- the right side: a text, or an instance of the same class -/
def rOwnEq (C : Addr) (sp : Sp) (E : XK) : R2 := fun x y H Q => ∃ a dx fs, x = .ref a ∧ H a = some (.ins C dx fs) ∧ ((∃ z : Str, y = .str z) ∨ ∃ b dy gs, y = .ref b ∧ H b = some (.ins C dy gs)) ∧ sp [.ref a, y] H Q E
theorem op_ownEq {X : Cx} {CX : CXT} {k : Nat} {C f : Addr} {fd : FuncData} {ps : List Str} {sp : Sp} {E : XK} (F : FnOk X.prog X.w X.K X.mg X.base CX k f fd ps sp) (hr : Room k X.A)
    (hs : PySem.W.findIn X.K (.ref C) "__eq__" = some (some (.ref f))) (hf : PySem.W.isFn X.K (.ref f) = true) (hb : Binds X.K fd ps []) (hx : Passes CX X E)
    (hstr : PySem.W.notFirst X.K C (.type "str") = true) : OpR X (compareOp .Eq) (rOwnEq C sp E) := by
  intro pins s σ H x y v u Q I rx ry h
  obtain ⟨a, dx, fs, rfl, ha, hy, hsp⟩ := h
  cases rx
  obtain ⟨mA, J, _⟩ := ins_get I.hok ha
  obtain ⟨od, J, _⟩ := J.look
  obtain ⟨m, hF⟩ := I.fr
  have rs : Vals [V.ref a, y] [Value.ref a, u] := .cons rfl (.cons ry .nil)
  have run : wpAny (model X.prog X.w) X.A (call (.ref f) [.ref a, u]) (PySem.W.CmpBack (EP X pins σ Q)) X.xe s :=
    thn (run_fn (dvs := []) F hr hb .nil hx I rs (by rw [List.append_nil]; exact hsp)) fun z s' hz => by
      obtain ⟨zv, H', I', rz, q⟩ := id hz
      exact back_of rz hz
  show wpAny (model X.prog X.w) X.A (richCompare .Eq (.ref a) u) (EP X pins σ Q) X.xe s
  rcases hy with ⟨z, rfl⟩ | ⟨b, dy, gs, rfl, hb'⟩
  · obtain ⟨t, rfl⟩ := (show ∃ t, u = Value.str z t from ry)
    exact PySem.W.cmp_K (op := .Eq) (tb := .type "str") hr.units0 hF I.ok.mod.kin J (PySem.W.Looks.of_pure rfl) hstr hs hf run
  · cases ry
    obtain ⟨mB, J2, _⟩ := ins_get I.hok hb'
    obtain ⟨od2, J2, _⟩ := J2.look
    exact PySem.W.cmp_K (op := .Eq) (tb := .ref C) hr.units0 hF I.ok.mod.kin J J2.type (by simp [PySem.W.notFirst]) hs hf run
/-! ### a word between a statement and what follows -/
def tMid (t u : TS) : TS := fun D σ H => ∃ Mid : L2.St → Hp → Prop, t { D with nx := Mid } σ H ∧ ∀ σ' H', Mid σ' H' → u D σ' H'
theorem pss_mid {X : Cx} {st : Stmt} {rest : List Stmt} {t u : TS} (h1 : PS X st t) (h2 : PSs X rest u) : PSs X (st :: rest) (tMid t u) := by
  have both : PSs X (st :: rest) (tSeq t u) := pss_cons h1 h2
  refine ⟨fun pins s σ H D I h => ?_⟩
  obtain ⟨Mid, hm, hu⟩ := h
  refine wpAny_execs_cons (thn (h1.run pins s σ H { D with nx := Mid } I hm) fun f s1 q => ?_)
  cases f with
  | next => exact let ⟨σ', H', J, q'⟩ := q; h2.run pins s1 σ' H' D J (hu σ' H' q')
  | ret v => exact q
  | brk => exact q
  | cont => exact q
end K53

/-! K2 -/
/-! heaps: what a call may change, what it has made; data over heaps; the promise of a callee in one word -/
namespace K53
open PySem PySem.Spec PyProof.Rows L2
/-! ### same, data -/
theorem same_new {H : Hp} {p : Addr} {o : HO} (h : H p = none) : Same H (upd H p o) := fun b u e => by
  rw [upd_ne (ne_of_none e h)]
  exact e
theorem Same.sqt {K : PySem.W.Frag} {H H' : Hp} {a : Addr} {xs : List V} (e : Same H H') (h : SqT K H a xs) : SqT K H' a xs := by
  rcases h with (h | ⟨o, h⟩) | h
  · exact .inl (.inl (e _ _ h))
  · exact .inl (.inr ⟨o, e _ _ h⟩)
  · exact .inr h
mutual
theorem Dp.up {K : PySem.W.Frag} {H H' : Hp} (e : Same H H') : ∀ (d : PyData) (v : V), Dp K H v d → Dp K H' v d
  | .none, _, h => by cases h; exact .non
  | .bool b, _, h => by cases h; exact .bl b
  | .int i, _, h => by cases h; exact .int i
  | .str x, _, h => by cases h; exact .str x
  | .list ds, _, h => by
    cases h with
    | lst hs ha => exact .lst (e.seq hs) (DpAll.up e ds _ ha)
  | .tuple ds, _, h => by
    cases h with
    | tup hs ha => exact .tup (Same.sqt e hs) (DpAll.up e ds _ ha)
  | .dict _, _, h => by cases h
theorem DpAll.up {K : PySem.W.Frag} {H H' : Hp} (e : Same H H') : ∀ (ds : List PyData) (vs : List V), DpAll K H vs ds → DpAll K H' vs ds
  | [], _, h => by cases h; exact .nil
  | d :: ds, _, h => by
    cases h with
    | cons h1 h2 => exact .cons (Dp.up e d _ h1) (DpAll.up e ds _ h2)
end
theorem dp_list {K : PySem.W.Frag} {H : Hp} {v : V} {ds : List PyData} (h : Dp K H v (.list ds)) : ∃ a xs, v = .ref a ∧ SqL K H a xs ∧ DpAll K H xs ds := by
  cases h with
  | lst hs ha => exact ⟨_, _, rfl, hs, ha⟩
theorem dp_tup {K : PySem.W.Frag} {H : Hp} {v : V} {ds : List PyData} (h : Dp K H v (.tuple ds)) : ∃ a xs, v = .ref a ∧ SqT K H a xs ∧ DpAll K H xs ds := by
  cases h with
  | tup hs ha => exact ⟨_, _, rfl, hs, ha⟩
theorem dp_str {K : PySem.W.Frag} {H : Hp} {v : V} {x : Str} (h : Dp K H v (.str x)) : v = .str x := by cases h; rfl
theorem dp_int {K : PySem.W.Frag} {H : Hp} {v : V} {x : Int} (h : Dp K H v (.int x)) : v = .int x := by cases h; rfl
theorem dp_bool {K : PySem.W.Frag} {H : Hp} {v : V} {x : Bool} (h : Dp K H v (.bool x)) : v = .bl x := by cases h; rfl
theorem all_nil {K : PySem.W.Frag} {H : Hp} {vs : List V} (h : DpAll K H vs []) : vs = [] := by cases h; rfl
theorem all_cons {K : PySem.W.Frag} {H : Hp} {vs : List V} {d : PyData} {ds : List PyData} (h : DpAll K H vs (d :: ds)) : ∃ v r, vs = v :: r ∧ Dp K H v d ∧ DpAll K H r ds := by
  cases h with
  | cons h1 h2 => exact ⟨_, _, rfl, h1, h2⟩
theorem all_len {K : PySem.W.Frag} {H : Hp} : ∀ {ds : List PyData} {vs : List V}, DpAll K H vs ds → vs.length = ds.length
  | [], _, h => by rw [all_nil h]; rfl
  | d :: ds, _, h => by
    obtain ⟨v, r, rfl, _, h2⟩ := all_cons h
    rw [List.length_cons, List.length_cons, all_len h2]
theorem all_get {K : PySem.W.Frag} {H : Hp} : ∀ {ds : List PyData} {vs : List V} {i : Nat} {v : V}, DpAll K H vs ds → vs[i]? = some v → ∃ d, ds[i]? = some d ∧ Dp K H v d
  | [], _, i, v, h, e => by rw [all_nil h] at e; simp at e
  | d :: ds, _, i, v, h, e => by
    obtain ⟨w, r, rfl, h1, h2⟩ := all_cons h
    cases i with
    | zero =>
      have e' : w = v := by simpa using e
      exact ⟨d, rfl, e' ▸ h1⟩
    | succ i => exact all_get (ds := ds) (vs := r) (i := i) h2 (by simpa using e)
theorem all_app {K : PySem.W.Frag} {H : Hp} : ∀ {ds es : List PyData} {vs us : List V}, DpAll K H vs ds → DpAll K H us es → DpAll K H (vs ++ us) (ds ++ es)
  | [], _, _, _, h, k => by rw [all_nil h]; exact k
  | d :: ds, _, _, _, h, k => by
    obtain ⟨w, r, rfl, h1, h2⟩ := all_cons h
    exact .cons h1 (all_app h2 k)
theorem all_take {K : PySem.W.Frag} {H : Hp} : ∀ {ds : List PyData} {vs : List V} (n : Nat), DpAll K H vs ds → DpAll K H (vs.take n) (ds.take n)
  | _, _, 0, _ => by rw [List.take_zero, List.take_zero]; exact .nil
  | [], _, n + 1, h => by rw [all_nil h]; exact .nil
  | d :: ds, _, n + 1, h => by
    obtain ⟨w, r, rfl, h1, h2⟩ := all_cons h
    exact .cons h1 (all_take n h2)
/-! ### what may change, what is new -/
def mu : Option HO → Bool
  | some (.lst _) => true
  | some (.ins _ _ _) => true
  | _ => false
/-- the heap H without the lists and instances of H0 -/
def nw (H0 H : Hp) : Hp := fun b => if mu (H0 b) = true then none else H b
theorem nw_some {H0 H : Hp} {b : Addr} {o : HO} : nw H0 H b = some o ↔ mu (H0 b) = false ∧ H b = some o := by
  unfold nw
  cases h : mu (H0 b) <;> simp
theorem nw_le (H0 H : Hp) : Same (nw H0 H) H := fun _ _ e => (nw_some.mp e).2
/-- all but the cells of D stands as it was; these stay lists, instances -/
structure Kp (D : Addr → Prop) (H H' : Hp) : Prop where
  same : ∀ b o, ¬ D b → H b = some o → H' b = some o
  mt : ∀ b, D b → mu (H b) = true → mu (H' b) = true
abbrev Nob : Addr → Prop := fun _ => False
section
variable {D : Addr → Prop} {K : PySem.W.Frag} {H H0 H1 H2 H3 : Hp}
theorem Kp.refl : Kp D H H := ⟨fun _ _ _ e => e, fun _ _ e => e⟩
theorem Kp.of (h : Same H1 H2) : Kp D H1 H2 := ⟨fun b o _ e => h b o e, fun b _ e => by
  cases q : H1 b with
  | none => rw [q] at e; cases e
  | some o => rw [h b o q, ← q]; exact e⟩
theorem Kp.trans (a : Kp D H1 H2) (b : Kp D H2 H3) : Kp D H1 H3 := ⟨fun c o n e => b.same c o n (a.same c o n e), fun c n e => b.mt c n (a.mt c n e)⟩
theorem Kp.toSame (a : Kp Nob H1 H2) : Same H1 H2 := fun b o e => a.same b o (fun z => z) e
theorem Kp.new {p : Addr} {o : HO} (h : H p = none) : Kp D H (upd H p o) := .of (same_new h)
theorem Kp.put {p : Addr} {o : HO} (h : D p) (m : mu (some o) = true) : Kp D H (upd H p o) := by
  refine ⟨fun b u n e => ?_, fun b n e => ?_⟩
  · rw [upd_ne (fun z : b = p => n (by rw [z]; exact h))]
    exact e
  · by_cases hb : b = p
    · rw [hb, upd_same]
      exact m
    · rw [upd_ne hb]
      exact e
theorem Kp.free (a : Kp D H1 H2) {p : Addr} (hp : ¬ D p) (h : H2 p = none) : H1 p = none := by
  cases q : H1 p with
  | none => rfl
  | some o => rw [a.same p o hp q] at h; cases h
theorem Kp.stay (a : Kp D H1 H2) {b : Addr} (h : mu (H1 b) = true) : mu (H2 b) = true := by
  by_cases hb : D b
  · exact a.mt b hb h
  · cases q : H1 b with
    | none => rw [q] at h; cases h
    | some o => rw [a.same b o hb q, ← q]; exact h
theorem Kp.seq (a : Kp D H1 H2) {p : Addr} {xs : List V} (hp : ¬ D p) (h : SqL K H1 p xs) : SqL K H2 p xs := by
  rcases h with (h | ⟨o, h⟩) | h
  · exact .inl (.inl (a.same _ _ hp h))
  · exact .inl (.inr ⟨o, a.same _ _ hp h⟩)
  · exact .inr h
/-- made ahead of a step, it stands behind it -/
theorem nw_fwd (a : Kp D H1 H2) (hD : ∀ b, D b → mu (H0 b) = true) : Same (nw H0 H1) (nw H0 H2) := fun b o e => by
  obtain ⟨h1, h2⟩ := nw_some.mp e
  refine nw_some.mpr ⟨h1, a.same b o (fun z => ?_) h2⟩
  rw [hD b z] at h1
  cases h1
/-- made since a later moment, it is made since an earlier one -/
theorem nw_since (a : Kp D H0 H1) : Same (nw H1 H2) (nw H0 H2) := fun b o e => by
  obtain ⟨h1, h2⟩ := nw_some.mp e
  refine nw_some.mpr ⟨?_, h2⟩
  cases q : mu (H0 b) with
  | false => rfl
  | true => rw [a.stay q] at h1; cases h1
theorem nw_new {p : Addr} {o : HO} (h : H0 p = none) (e : H p = some o) : nw H0 H p = some o := nw_some.mpr ⟨by rw [h]; rfl, e⟩
/-- a heap without one cell -/
def wo (H : Hp) (p : Addr) : Hp := fun b => if b = p then none else H b
theorem wo_some {p b : Addr} {o : HO} : wo H p b = some o ↔ b ≠ p ∧ H b = some o := by
  unfold wo
  by_cases h : b = p <;> simp [h]
theorem wo_le {p : Addr} : Same (wo H p) H := fun _ _ e => (wo_some.mp e).2
/-! ### a list that is being made -/
/-- the list at o is new since H0; its items are data made of other cells -/
structure Bl (K : PySem.W.Frag) (H0 H : Hp) (o : Addr) (vs : List V) (ds : List PyData) : Prop where
  new : H0 o = none
  at_ : H o = some (.lst vs)
  items : DpAll K (wo (nw H0 H) o) vs ds
theorem Bl.start {o : Addr} (h : H0 o = none) : Bl K H0 (upd H o (.lst [])) o [] [] := ⟨h, upd_same, .nil⟩
theorem Bl.keep {o : Addr} {vs : List V} {ds : List PyData} (b : Bl K H0 H1 o vs ds) (a : Kp D H1 H2) (ho : ¬ D o) (hD : ∀ b, D b → mu (H0 b) = true) : Bl K H0 H2 o vs ds :=
  ⟨b.new, a.same _ _ ho b.at_, DpAll.up (fun c u e => by
    obtain ⟨h1, h2⟩ := wo_some.mp e
    exact wo_some.mpr ⟨h1, nw_fwd a hD c u h2⟩) _ _ b.items⟩
/-- an item is put behind: made since a moment at which the list stood -/
theorem Bl.push {o : Addr} {vs vs' : List V} {ds : List PyData} {v : V} {d : PyData} (b : Bl K H0 H2 o vs ds) (a : Kp D H0 H1) (h1 : H1 o = some (.lst vs')) (hv : Dp K (nw H1 H2) v d) : Bl K H0 (upd H2 o (.lst (vs ++ [v]))) o (vs ++ [v]) (ds ++ [d]) := by
  have key : ∀ c u, wo (nw H0 H2) o c = some u → wo (nw H0 (upd H2 o (.lst (vs ++ [v])))) o c = some u := fun c u e => by
    obtain ⟨n, e2⟩ := wo_some.mp e
    obtain ⟨m, e3⟩ := nw_some.mp e2
    exact wo_some.mpr ⟨n, nw_some.mpr ⟨m, by rw [upd_ne n]; exact e3⟩⟩
  refine ⟨b.new, upd_same, all_app (DpAll.up key _ _ b.items) (.cons (Dp.up (fun c u e => ?_) _ _ hv) .nil)⟩
  obtain ⟨m, e2⟩ := nw_some.mp e
  have n : c ≠ o := fun z => by
    rw [z, h1] at m
    cases m
  exact key c u (wo_some.mpr ⟨n, nw_since a c u e⟩)
theorem Bl.done {o : Addr} {vs : List V} {ds : List PyData} (b : Bl K H0 H o vs ds) : Dp K (nw H0 H) (.ref o) (.list ds) :=
  .lst (SqL.of (nw_new b.new b.at_)) (DpAll.up wo_le _ _ b.items)
theorem Bl.len {o : Addr} {vs : List V} {ds : List PyData} (b : Bl K H0 H o vs ds) : vs.length = ds.length := all_len b.items
end
/-! ### a callee in one word -/
section
variable (P : Program) (w : World) (K : PySem.W.Frag) (mg : Str → Option Value) (base : Heap)
/-- the module's def x keeps the promise at level k -/
def Cal (x : Str) (ps : List Str) (k : Nat) (sp : Sp) : Prop := ∃ f fd, FnOk P w K mg base CX0 k f fd ps sp ∧ mg x = some (.ref f) ∧ PySem.W.keepIn K (.ref f) = true ∧ Binds K fd ps []
/-- the method m of the class at C -/
def CalM (C : Addr) (m : Str) (ps : List Str) (k : Nat) (sp : Sp) : Prop := ∃ f fd, FnOk P w K mg base CX0 k f fd ps sp ∧ Meth K C m f ∧ Binds K fd ps []
/-- an instance of the class at C is made by its __init__ -/
def CalI (C : Addr) (x : Str) (ps : List Str) (k : Nat) (sp : Sp) : Prop := ∃ f fd, FnOk P w K mg base CX0 k f fd ps sp ∧ Mk K C f ∧ Binds K fd ps [] ∧ mg x = some (.ref C)
end
section
variable {P : Program} {w : World} {K : PySem.W.Frag} {mg : Str → Option Value} {base : Heap} {x m : Str} {ps : List Str} {j k : Nat} {sp sp' : Sp} {C : Addr}
theorem Cal.mono (c : Cal P w K mg base x ps j sp) (h : j ≤ k) : Cal P w K mg base x ps k sp := let ⟨f, fd, a, b⟩ := c; ⟨f, fd, a.mono h, b⟩
theorem CalM.mono (c : CalM P w K mg base C m ps j sp) (h : j ≤ k) : CalM P w K mg base C m ps k sp := let ⟨f, fd, a, b⟩ := c; ⟨f, fd, a.mono h, b⟩
end
/-- where a def of the text stands -/
structure At (K : PySem.W.Frag) (mg : Str → Option Value) (d : He.DefD) (x : Str) (f : Addr) (fd : FuncData) : Prop where
  F : FunD K d.name d.qual d.params d.body d.scope [] [] f fd
  m : mg x = some (.ref f)
theorem sizes {n : Nat} (h : n ≤ 100000) : n ≤ sizeLine := Nat.le_trans h (by decide)
theorem sizes1 {n : Nat} (h : n ≤ 100000) : n < sizeLine := Nat.lt_of_le_of_lt h (by decide)
end K53

/-! KA -/
/-! the law's numbers: _law_number, _law_digits, _law_digit -/
namespace K53
open PySem PySem.Spec PyProof.Rows L2
/-- the built-ins' names are the built-ins -/
structure Bi (mg : Str → Option Value) : Prop where
  len : mg "len" = none
  enum : mg "enumerate" = none
  int : mg "int" = none
  range : mg "range" = none
  str : mg "str" = none
  repr : mg "repr" = none
  isi : mg "isinstance" = none
  list : mg "list" = none
theorem bt_int : bootBuiltins "int" = some (.type "int") := by decide +kernel
theorem bt_str : bootBuiltins "str" = some (.type "str") := by decide +kernel
theorem bt_isi : bootBuiltins "isinstance" = some (.builtin "isinstance") := by decide +kernel
theorem bt_list : bootBuiltins "list" = some (.type "list") := by decide +kernel
theorem bt_repr : bootBuiltins "repr" = some (.builtin "repr") := by decide +kernel
section
variable {P : Program} {w : World} {K : PySem.W.Frag} {mg : Str → Option Value} {base : Heap}
/-! ### _law_digit -/
def spDigit : Sp := fun vs H Q _ => ∃ (d : Addr) (n m : Int), vs = [.ref d, .int m] ∧ H d = some (.lst [.int n]) ∧ 0 < m ∧ m ≤ 1000 ∧
  ∀ n' r, 0 ≤ r → r < m → Q (.int r) (upd H d (.lst [.int n']))
theorem ok_digit (B : Bi mg) {f : Addr} {fd : FuncData} (A : At K mg d_l_digit "_law_digit" f fd) : Cal P w K mg base "_law_digit" ["_law_digits_here", "_law_many"] 1 spDigit := by
  refine ⟨f, fd, A.F.ok sc_l_digit (fun vs H Q E h => ?_) (fun cdv A outer s H vs Q E hr h => ?_), A.m, A.F.kp, A.F.bindsN fun _ _ _ _ _ _ us hl => match us, hl with | [_, _], _ => rfl⟩
  · obtain ⟨d, n, m, rfl, _⟩ := h
    rfl
  obtain ⟨d, n, m, rfl, hd, m0, m1, q⟩ := h
  refine ⟨_, PSs.nox (pss_cons (ps_set (i := 2) sc_l_digit.nd rfl (.inl rfl) (pe_op op_mod (pe_callTy call_int1 (by rfl) B.int bt_int (pa_cons (pe_ix ix_list (pv 0) pe_int (fun _ _ => rfl)) pa_nil)) (pv 1)))
    (pss_cons (ps_asg (pe_op op_fdivN (pe_callTy call_int1 (by rfl) B.int bt_int (pa_cons (pe_ix ix_list (pv 0) pe_int (fun _ _ => rfl)) pa_nil)) (pv 1)) (pg_sub (pv 0) pe_int set_list))
    (pss_one (ps_ret (pv 2))))), ?_⟩
  refine ⟨_, rfl, d, [.int n], 0, .int n, rfl, rfl, SqL.of hd, atI_nat (j := 0) rfl, .inl ⟨n, rfl, _, rfl, _, _, rfl, rfl, m0, ?_⟩⟩
  refine ⟨_, rfl, d, [.int n], 0, .int n, rfl, rfl, SqL.of hd, atI_nat (j := 0) rfl, .inl ⟨n, rfl, _, rfl, _, _, rfl, rfl, ⟨by omega, by omega⟩, ?_⟩⟩
  refine ⟨_, rfl, d, [.int n], 0, 0, rfl, rfl, hd, rfl, ?_⟩
  exact ⟨_, rfl, q _ _ (Int.emod_nonneg _ (by omega)) (Int.emod_lt_of_pos _ m0)⟩
/-! ### _law_number -/
def spNumber (K : PySem.W.Frag) : Sp := fun vs H Q _ => ∃ (a : Addr) (ns : List Int) (k : Int), vs = [.ref a, .int k] ∧ SqL K H a (ns.map V.int) ∧ 0 ≤ k ∧ k ≤ 1000 ∧ ∀ z, Q (.int z) H
theorem ok_number (B : Bi mg) {f : Addr} {fd : FuncData} (A : At K mg d_l_number "_law_number" f fd) : Cal P w K mg base "_law_number" ["_law_script", "_law_k"] 1 (spNumber K) := by
  refine ⟨f, fd, A.F.ok sc_l_number (fun vs H Q E h => ?_) (fun cdv A outer s H vs Q E hr h => ?_), A.m, A.F.kp, A.F.bindsN fun _ _ _ _ _ _ us hl => match us, hl with | [_, _], _ => rfl⟩
  · obtain ⟨a, ns, k, rfl, _⟩ := h
    rfl
  obtain ⟨a, ns, k, rfl, hS, k0, k1, q⟩ := h
  refine ⟨_, PSs.nox (pss_cons (ps_set (i := 2) sc_l_number.nd rfl (.inl rfl) pe_int)
    (pss_mid (ps_if (pt_cmpR op_lt (pv 1) (pe_callB call_len_seq (by rfl) B.len PySem.boot_len (pa_cons (pv 0) pa_nil)) (nomark _))
      (pss_one (ps_set (i := 2) sc_l_number.nd rfl (.inl rfl) (pe_ix ix_list (pv 0) (pv 1) (fun _ _ => rfl)))) pss_nil)
    (pss_mid (ps_if (pt_cmpR op_lt (pv 2) pe_int (nomark _)) (pss_one (ps_set (i := 2) sc_l_number.nd rfl (.inl rfl) (pe_op op_sub pe_int (pe_op op_mul pe_int (pv 2))))) pss_nil)
    (pss_cons (ps_if (pt_cmpR op_ge (pv 2) pe_int (nomark _)) (pss_one (ps_ret (pv 2))) pss_nil)
    (pss_cons (ps_set (i := 3) sc_l_number.nd rfl (.inl rfl) (pe_op op_mod (pe_callTy call_int1 (by rfl) B.int bt_int (pa_cons (pe_op op_add (pe_op op_mul (pe_op op_add (pv 2) pe_int) pe_int) (pe_op op_mul (pe_op op_add (pv 1) pe_int) pe_int)) pa_nil)) pe_int))
    (pss_cons (ps_set (i := 4) sc_l_number.nd rfl (.inl rfl) (pe_op op_mod (pe_callTy call_int1 (by rfl) B.int bt_int (pa_cons (pe_op op_add (pe_op op_mul (pv 3) pe_int) (pe_op op_mul (pe_op op_add (pv 2) pe_int) (pe_op op_add (pv 1) pe_int))) pa_nil)) pe_int))
    (pss_one (ps_ret (pe_op op_add (pe_op op_mul (pv 3) pe_int) (pv 4)))))))))), ?_⟩
  -- the cell
  refine ⟨fun σ H' => H' = H ∧ ∃ c : Int, σ = [some (.ref a), some (.int k), some (.int c), none, none], ?_, fun σ H' hm => ?_⟩
  · refine ⟨_, rfl, _, rfl, a, _, rfl, .inl hS, _, _, rfl, rfl, _, rfl, ite2 (fun e => ?_) (fun e => ?_)⟩
    · have e' : k < (((ns.map V.int).length : Nat) : Int) := of_decide_eq_true e
      rw [List.length_map] at e'
      have hk : k.toNat < ns.length := by omega
      have ek : k = ((k.toNat : Nat) : Int) := by omega
      have g : atI (ns.map V.int) k = some (.int ns[k.toNat]) := at_of ek (by rw [List.getElem?_map, List.getElem?_eq_getElem hk] <;> rfl)
      exact ⟨_, rfl, _, rfl, a, _, k, _, rfl, rfl, hS, g, rfl, _, rfl⟩
    · exact ⟨rfl, _, rfl⟩
  obtain ⟨rfl, c, rfl⟩ := hm
  refine ⟨fun σ H1 => H1 = H' ∧ ∃ c : Int, σ = [some (.ref a), some (.int k), some (.int c), none, none], ?_, fun σ H1 hm => ?_⟩
  · refine ⟨_, rfl, _, _, rfl, rfl, _, rfl, ite2 (fun e => ?_) (fun e => ?_)⟩
    · exact ⟨_, rfl, _, _, rfl, rfl, .inl ⟨by decide, by decide⟩, _, _, rfl, rfl, rfl, _, rfl⟩
    · exact ⟨rfl, _, rfl⟩
  obtain ⟨rfl, c, rfl⟩ := hm
  refine ⟨_, rfl, _, _, rfl, rfl, _, rfl, ite2 (fun e => ?_) (fun e => ?_)⟩
  · exact ⟨_, rfl, q c⟩
  · refine ⟨_, rfl, _, _, rfl, rfl, _, _, rfl, rfl, .inr ⟨by decide, by decide⟩, _, rfl, _, _, rfl, rfl, _, _, rfl, rfl, .inr ⟨by decide, by decide⟩, _, _, rfl, rfl, .inl ⟨_, rfl, _, _, rfl, rfl, (show (0 : Int) < _ by decide), ?_⟩⟩
    refine ⟨_, rfl, _, _, rfl, rfl, .inr ⟨by decide, by decide⟩, _, rfl, _, _, rfl, rfl, _, rfl, _, _, rfl, rfl, _, _, rfl, rfl, .inr ⟨by omega, by omega⟩, _, _, rfl, rfl, .inl ⟨_, rfl, _, _, rfl, rfl, (show (0 : Int) < _ by decide), ?_⟩⟩
    exact ⟨_, rfl, _, _, rfl, rfl, .inr ⟨by decide, by decide⟩, _, rfl, _, _, rfl, rfl, q _⟩
/-! ### _law_digits -/
def spDigits (K : PySem.W.Frag) : Sp := fun vs H Q _ => ∃ (a : Addr) (ns : List Int), vs = [.ref a, .int 0, .int 12] ∧ SqL K H a (ns.map V.int) ∧ ∀ n d, H d = none → Q (.ref d) (upd H d (.lst [.int n]))
theorem ok_digits (B : Bi mg) {f : Addr} {fd : FuncData} (A : At K mg d_l_digits "_law_digits" f fd) (c1 : Cal P w K mg base "_law_number" ["_law_script", "_law_k"] 1 (spNumber K)) : Cal P w K mg base "_law_digits" ["_law_script", "_law_first", "_law_count"] 2 (spDigits K) := by
  refine ⟨f, fd, A.F.ok sc_l_digits (fun vs H Q E h => ?_) (fun cdv A outer s H vs Q E hr h => ?_), A.m, A.F.kp, A.F.bindsN fun _ _ _ _ _ _ us hl => match us, hl with | [_, _, _], _ => rfl⟩
  · obtain ⟨a, ns, rfl, _⟩ := h
    rfl
  obtain ⟨a, ns, rfl, hS, q⟩ := h
  obtain ⟨f1, fd1, G1, m1, k1, b1⟩ := c1
  refine ⟨_, PSs.nox (pss_cons (ps_set (i := 3) sc_l_digits.nd rfl (.inl rfl) pe_int)
    (pss_cons (ps_for PassesOwn.never rfl (pi_range1 (by rfl) B.range (pa_cons (pv 2) pa_nil)) (pg_name (i := 4) sc_l_digits.nd rfl (.inl rfl))
      (pss_one (ps_set (i := 3) sc_l_digits.nd rfl (.inl rfl) (pe_op op_add (pe_op op_mul (pv 3) pe_int) (pe_call G1 hr (by rfl) m1 k1 b1 .nil pass0 (pa_cons (pv 0) (pa_cons (pe_op op_sub (pe_op op_sub (pe_op op_add (pv 1) (pv 2)) pe_int) (pv 4)) pa_nil)))))))
    (pss_one (ps_ret (pe_lst (pa_cons (pv 3) pa_nil)))))), ?_⟩
  refine ⟨_, rfl, 12, rfl, by decide, by decide, for_range (n := 12) (fun i σ H' => H' = H ∧ ∃ (n : Int) (y : Option V), σ = [some (.ref a), some (.int 0), some (.int 12), some (.int n), y]) ⟨rfl, 0, none, rfl⟩ (fun i σ H' hi hp => ?_) (fun σ H' hp => ?_)⟩
  · obtain ⟨rfl, n, y, rfl⟩ := hp
    refine ⟨_, rfl, _, _, rfl, rfl, .inr ⟨by decide, by decide⟩, _, rfl, _, rfl, _, rfl, _, _, rfl, rfl, _, _, rfl, rfl, _, rfl, _, _, rfl, rfl, a, ns, _, rfl, hS, by omega, by omega, fun z => ?_⟩
    exact ⟨_, _, rfl, rfl, rfl, _, _, rfl⟩
  · obtain ⟨rfl, n, y, rfl⟩ := hp
    exact ⟨_, rfl, by show 1 ≤ sizeLine; decide, fun p hp => q n p hp⟩
end
end K53

/-! KB -/
/-! the law's names: _law_name, _law_names -/
namespace K53
open PySem PySem.Spec PyProof.Rows L2
/-! ### plain -/
theorem cut_pre (z : Str) (k : Nat) : cs (cutS z none (some (k : Int))) = (cs z).take k := by
  have e : cs (cutS z none (some (k : Int))) = ((cs z).drop (HT.sIx z.length 0 none)).take (HT.sIx z.length z.length (some (k : Int)) - HT.sIx z.length 0 none) := by
    unfold cutS
    exact List.toList_toArray
  rw [e, HT.sIx_none, HT.sIx_nat, List.drop_zero, Nat.sub_zero]
  by_cases h : k ≤ z.length
  · rw [Nat.min_eq_left h]
  · rw [Nat.min_eq_right (by omega), List.take_of_length_le (by rw [len_cs]; exact Nat.le_refl _), List.take_of_length_le (by rw [← len_cs]; omega)]
theorem inV_str (x : Str) : ∀ xs : List Str, inV (.str x) (xs.map V.str) = decide (x ∈ xs)
  | [] => rfl
  | y :: r => by
    have ih := inV_str x r
    unfold inV at ih ⊢
    rw [List.map_cons, List.any_cons, ih]
    by_cases h : y = x
    · subst h
      simp [eqV]
    · have h2 : (eqV (.str y) (.str x)) = false := by
        show (y == x) = false
        exact beq_eq_false_iff_ne.mpr h
      rw [h2, Bool.false_or]
      by_cases q : x ∈ r
      · rw [decide_eq_true q, decide_eq_true (List.mem_cons_of_mem _ q)]
      · rw [decide_eq_false q, decide_eq_false (fun z => by
          rcases List.mem_cons.mp z with z | z
          · exact h z.symm
          · exact q z)]
theorem flat_strs : ∀ xs : List Str, (xs.map V.str).all flatV = true
  | [] => rfl
  | x :: r => by
    rw [List.map_cons, List.all_cons, flat_strs r]
    rfl
/-- the lengths of names -/
def NmLen (x : Str) : Prop := x.length ≤ 5 ∨ x.length = 20
/-- a name that the law may make a title of -/
structure Nm (x : Str) : Prop where
  ok : NameOk x
  len : x.length ≠ 15
/-- a name in the making: n signs behind the first -/
def Pre (x : Str) (n : Nat) : Prop := ∃ c r, cs x = c :: r ∧ Letter c ∧ (∀ d ∈ r, Sign d) ∧ r.length = n
def signs37 : Str := "abcdefghijklmnopqrstuvwxyz0123456789_"
instance (c : Nat) : Decidable (Letter c) := by unfold Letter; infer_instance
instance (c : Nat) : Decidable (Sign c) := by unfold Sign; infer_instance
theorem signs_at : ∀ j : Fin 37, ∃ c, (cs signs37)[j.val]? = some c ∧ Sign c ∧ (j.val < 26 → Letter c) := by
  have all : ∀ j : Fin 37, (match (cs signs37)[j.val]? with
    | some c => decide (Sign c ∧ (j.val < 26 → Letter c))
    | none => false) = true := by decide +kernel
  intro j
  have h := all j
  cases e : (cs signs37)[j.val]? with
  | none => rw [e] at h; cases h
  | some c =>
    rw [e] at h
    exact ⟨c, rfl, of_decide_eq_true h⟩
theorem sign_of {r : Int} (h0 : 0 ≤ r) (h1 : r < 37) : ∃ c, atI signs37.cps.toList r = some c ∧ Sign c ∧ (r < 26 → Letter c) := by
  obtain ⟨c, e, s, l⟩ := signs_at ⟨r.toNat, by omega⟩
  have er : r = ((r.toNat : Nat) : Int) := by omega
  have e1 : atI signs37.cps.toList ((r.toNat : Nat) : Int) = some c := atI_nat e
  have e2 : atI signs37.cps.toList r = some c := by
    rw [er]
    exact e1
  exact ⟨c, e2, s, fun h => l (show r.toNat < 26 by omega)⟩
theorem Pre.start {c : Nat} (h : Letter c) : Pre ⟨#[c]⟩ 0 := ⟨c, [], rfl, h, (fun _ m => nomatch m), rfl⟩
theorem Pre.more {x : Str} {n c : Nat} (h : Pre x n) (hc : Sign c) : Pre (x ++ ⟨#[c]⟩) (n + 1) := by
  obtain ⟨a, r, e, l, s, z⟩ := h
  refine ⟨a, r ++ [c], ?_, l, fun d m => ?_, by rw [List.length_append, z]; rfl⟩
  · rw [cs_app, e]
    rfl
  · rcases List.mem_append.mp m with m | m
    · exact s d m
    · rw [List.mem_singleton.mp m]
      exact hc
theorem Pre.len {x : Str} {n : Nat} (h : Pre x n) : x.length = n + 1 := by
  obtain ⟨a, r, e, _, _, z⟩ := h
  rw [len_cs, e, List.length_cons, z]
theorem Pre.name {x : Str} {n : Nat} (h : Pre x n) (hn : n < 20) (hk : x ∉ kws) : NameOk x := by
  obtain ⟨a, r, e, l, s, z⟩ := h
  exact ⟨⟨a, r, e, l, s, by omega⟩, hk⟩
theorem kw_no95 {x : Str} (h : 95 ∈ cs x) : x ∉ kws := fun m => by
  have all : ∀ y ∈ kws, (cs y).contains 95 = false := by decide +kernel
  have := all x m
  rw [List.contains_eq_mem, decide_eq_true h] at this
  cases this
/-- the first n signs and a line below -/
def under (x : Str) (n : Nat) : Str := cutS x none (some (n : Int)) ++ "_"
theorem cs_under (x : Str) (n : Nat) : cs (under x n) = (cs x).take n ++ [95] := by
  unfold under
  rw [cs_app, cut_pre]
  congr 1
theorem under_ok {x : Str} {n k : Nat} (h : Pre x k) (hn : 1 ≤ n) : ∃ m, Pre (under x n) m ∧ m = min (n - 1) k + 1 := by
  obtain ⟨a, r, e, l, s, z⟩ := h
  obtain ⟨j, rfl⟩ : ∃ j, n = j + 1 := ⟨n - 1, by omega⟩
  refine ⟨min j k + 1, ⟨a, r.take j ++ [95], ?_, l, fun d m => ?_, ?_⟩, by rw [Nat.add_sub_cancel]⟩
  · rw [cs_under, e, List.take_succ_cons]
    rfl
  · rcases List.mem_append.mp m with m | m
    · exact s d (List.mem_of_mem_take m)
    · rw [List.mem_singleton.mp m]
      exact .inr (.inr rfl)
  · rw [List.length_append, List.length_take, z]
    rfl
/-! ### names that are none of others -/
theorem cs_num : ∀ {t : Nat}, t < 5 → cs (toString (t : Int) : Str) = [48 + t] := by
  have all : ∀ t : Fin 5, cs (toString ((t.val : Nat) : Int) : Str) = [48 + t.val] := by decide +kernel
  intro t h
  exact all ⟨t, h⟩
/-- the t-th name that is tried -/
def nm (x : Str) : Nat → Str
  | 0 => x
  | t + 1 => under x 16 ++ (toString (t : Int) : Str)
theorem nmLen_pre {x : Str} (h : NameOk x) (l : NmLen x) : ∃ k, Pre x k ∧ (k ≤ 4 ∨ k = 19) := by
  obtain ⟨c, r, e, a, b, z⟩ := h.ex
  have e2 : x.length = r.length + 1 := by rw [len_cs, e, List.length_cons]
  refine ⟨r.length, ⟨c, r, e, a, b, rfl⟩, ?_⟩
  unfold NmLen at l
  omega
theorem cand_pre {x : Str} (h : NameOk x) (l : NmLen x) {t : Nat} (ht : t < 5) : ∃ m, Pre (nm x (t + 1)) m ∧ (m ≤ 6 ∨ m = 17) ∧ 1 ≤ m ∧ m ≠ x.length - 1 := by
  obtain ⟨k, pk, hk⟩ := nmLen_pre h l
  obtain ⟨m, pm, em⟩ := under_ok (n := 16) pk (by omega)
  have e : nm x (t + 1) = under x 16 ++ (⟨#[48 + t]⟩ : Str) := by
    show under x 16 ++ (toString (t : Int) : Str) = _
    rw [show (toString (t : Int) : Str) = ⟨#[48 + t]⟩ from sx (cs_num ht)]
  have lk := pk.len
  rw [e]
  exact ⟨m + 1, pm.more (.inr (.inl ⟨by omega, by omega⟩)), by omega, by omega, by omega⟩
theorem cand_nm {x : Str} (h : NameOk x) (l : NmLen x) {t : Nat} (ht : t < 5) : Nm (nm x (t + 1)) := by
  obtain ⟨m, pm, h1, _, _⟩ := cand_pre h l ht
  have lm := pm.len
  refine ⟨pm.name (by omega) (kw_no95 ?_), by omega⟩
  show 95 ∈ cs (under x 16 ++ _)
  rw [cs_app, cs_under]
  simp
theorem first_nm {x : Str} (h : NameOk x) (l : NmLen x) : Nm x := ⟨h, by unfold NmLen at l; omega⟩
theorem nm_ne {x : Str} (h : NameOk x) (l : NmLen x) {i j : Nat} (hij : i < j) (hj : j ≤ 5) : nm x i ≠ nm x j := by
  obtain ⟨b, rfl⟩ : ∃ b, j = b + 1 := ⟨j - 1, by omega⟩
  intro e
  cases i with
  | zero =>
    obtain ⟨m, pm, _, _, h3⟩ := cand_pre h l (t := b) (by omega)
    have lm := pm.len
    rw [← e] at lm
    have : (nm x 0).length = x.length := rfl
    omega
  | succ a =>
    have e2 : cs (under x 16 ++ (toString (a : Int) : Str)) = cs (under x 16 ++ (toString (b : Int) : Str)) := congrArg cs e
    rw [cs_app, cs_app, cs_num (by omega), cs_num (by omega)] at e2
    have e3 := List.append_cancel_left e2
    have e4 : 48 + a = 48 + b := (List.cons.inj e3).1
    omega
theorem sub_len : ∀ {l xs : List Str}, l.Nodup → (∀ y ∈ l, y ∈ xs) → l.length ≤ xs.length
  | [], _, _, _ => Nat.zero_le _
  | a :: l, xs, hn, hs => by
    obtain ⟨h1, h2⟩ := List.nodup_cons.mp hn
    have ha := hs a List.mem_cons_self
    have ih := sub_len (l := l) (xs := xs.erase a) h2 fun y hy => (List.mem_erase_of_ne (fun e : y = a => h1 (by rw [← e]; exact hy))).mpr (hs y (List.mem_cons_of_mem _ hy))
    rw [List.length_erase_of_mem ha] at ih
    have := List.length_pos_of_mem ha
    rw [List.length_cons]
    omega
/-- the name at the t-th turn: it is new, or all the names tried so far are old ones -/
def Iv (x : Str) (xs : List Str) (t : Nat) (y : Str) : Prop := y ∉ xs ∨ ((∀ i, i < t → nm x i ∈ xs) ∧ y = nm x t)
theorem Iv.turn {x y : Str} {xs : List Str} {t : Nat} (h : Iv x xs t y) (hm : y ∈ xs) : Iv x xs (t + 1) (nm x (t + 1)) := by
  rcases h with h | ⟨h1, h2⟩
  · exact absurd hm h
  · refine .inr ⟨fun i hi => ?_, rfl⟩
    by_cases hit : i < t
    · exact h1 i hit
    · rw [show i = t by omega, ← h2]
      exact hm
theorem Iv.last {x y : Str} {xs : List Str} {c : Nat} (ok : NameOk x) (l : NmLen x) (h : Iv x xs (c + 1) y) (hc : c ≤ 4) (hx : xs.length ≤ c) : y ∉ xs := by
  rcases h with h | ⟨h1, _⟩
  · exact h
  · have nd : ((List.range (c + 1)).map (nm x)).Nodup := by
      refine List.pairwise_map.mpr (List.Pairwise.imp_of_mem (fun {a b} ha hb hab => ?_) List.pairwise_lt_range)
      have := List.mem_range.mp hb
      exact nm_ne ok l hab (by omega)
    have := sub_len nd (xs := xs) fun y hy => by
      obtain ⟨i, hi, rfl⟩ := List.mem_map.mp hy
      exact h1 i (List.mem_range.mp hi)
    rw [List.length_map, List.length_range] at this
    omega
section
variable {P : Program} {w : World} {K : PySem.W.Frag} {mg : Str → Option Value} {base : Heap}
/-! ### _law_name -/
def spName : Sp := fun vs H Q _ => ∃ (d : Addr) (n : Int), vs = [.ref d] ∧ H d = some (.lst [.int n]) ∧
  ∀ x n' H', NameOk x → NmLen x → Kp (· = d) H H' → H' d = some (.lst [.int n']) → Q (.str x) H'
theorem kws_eq : [V.str "move", .str "set", .str "wait", .str "take", .str "release", .str "if", .str "else", .str "repeat", .str "call", .str "routine", .str "on", .str "off"] = kws.map V.str := rfl
theorem ok_name (B : Bi mg) {f : Addr} {fd : FuncData} (A : At K mg d_l_name "_law_name" f fd) (c1 : Cal P w K mg base "_law_digit" ["_law_digits_here", "_law_many"] 1 spDigit) : Cal P w K mg base "_law_name" ["_law_digits_here"] 2 spName := by
  refine ⟨f, fd, A.F.ok sc_l_name (fun vs H Q E h => ?_) (fun cdv A outer s H vs Q E hr h => ?_), A.m, A.F.kp, A.F.bindsN fun _ _ _ _ _ _ us hl => match us, hl with | [_], _ => rfl⟩
  · obtain ⟨d, n, rfl, _⟩ := h
    rfl
  obtain ⟨d, n, rfl, hd, q⟩ := h
  obtain ⟨f1, fd1, G1, m1, k1, b1⟩ := c1
  refine ⟨_, PSs.nox (pss_cons (ps_set (i := 1) sc_l_name.nd rfl (.inl rfl) (pe_lst (pa_cons pe_str (pa_cons pe_str (pa_cons pe_str (pa_cons pe_str (pa_cons pe_str (pa_cons pe_str (pa_cons pe_str (pa_cons pe_str (pa_cons pe_str (pa_cons pe_str (pa_cons pe_str (pa_cons pe_str pa_nil))))))))))))))
    (pss_cons (ps_set (i := 2) sc_l_name.nd rfl (.inl rfl) pe_str)
    (pss_cons (ps_set (i := 3) sc_l_name.nd rfl (.inl rfl) (pe_op op_add pe_int (pe_call G1 hr (by rfl) m1 k1 b1 .nil pass0 (pa_cons (pv 0) (pa_cons pe_int pa_nil)))))
    (pss_mid (ps_if (pt_cmpR op_eq (pe_call G1 hr (by rfl) m1 k1 b1 .nil pass0 (pa_cons (pv 0) (pa_cons pe_int pa_nil))) pe_int (nomark _)) (pss_one (ps_set (i := 3) sc_l_name.nd rfl (.inl rfl) pe_int)) pss_nil)
    (pss_cons (ps_set (i := 4) sc_l_name.nd rfl (.inl rfl) (pe_ix ix_str (pv 2) (pe_call G1 hr (by rfl) m1 k1 b1 .nil pass0 (pa_cons (pv 0) (pa_cons pe_int pa_nil))) (fun _ _ => rfl)))
    (pss_cons (ps_for PassesOwn.never rfl (pi_range1 (by rfl) B.range (pa_cons (pe_op op_sub (pv 3) pe_int) pa_nil)) (pg_name (i := 5) sc_l_name.nd rfl (.inl rfl))
      (pss_one (ps_set (i := 4) sc_l_name.nd rfl (.inl rfl) (pe_op op_add_str (pv 4) (pe_ix ix_str (pv 2) (pe_call G1 hr (by rfl) m1 k1 b1 .nil pass0 (pa_cons (pv 0) (pa_cons pe_int pa_nil))) (fun _ _ => rfl))))))
    (pss_cons (ps_if (pt_cmpR op_in_seq (pv 4) (pv 1) (by rfl)) (pss_one (ps_ret (pe_op op_add_str (pe_slice sl_str (pv 4) po_none (po_some pe_int)) pe_str))) pss_nil)
    (pss_one (ps_ret (pv 4)))))))))), ?_⟩
  refine ⟨by show 12 ≤ sizeLine; decide, fun p hp => ?_⟩
  rw [kws_eq]
  have hdp : d ≠ p := ne_of_none hd hp
  have hd1 : upd H p (.lst (kws.map V.str)) d = some (.lst [.int n]) := by rw [upd_ne hdp]; exact hd
  have k0 : Kp (· = d) H (upd H p (.lst (kws.map V.str))) := Kp.new hp
  -- what stands from now on
  have step : ∀ {H1 : Hp} {n' : Int}, Kp (· = d) H H1 → H1 p = some (.lst (kws.map V.str)) → Kp (· = d) H (upd H1 d (.lst [.int n'])) ∧ upd H1 d (.lst [.int n']) p = some (.lst (kws.map V.str)) ∧ upd H1 d (.lst [.int n']) d = some (.lst [.int n']) := fun k e =>
    ⟨k.trans (Kp.put rfl rfl), by rw [upd_ne hdp.symm]; exact e, upd_same⟩
  have hz : signs37.length ≤ sizeLine := by decide +kernel
  -- the size
  refine ⟨_, rfl, d, n, 5, rfl, hd1, by decide, by decide, fun n1 r1 r10 r11 => ?_⟩
  obtain ⟨s1, t1, u1⟩ := step (n' := n1) k0 upd_same
  refine ⟨_, _, rfl, rfl, ?_⟩
  refine ⟨fun σ H1 => ∃ (m : Nat) (n2 : Int), (m ≤ 4 ∨ m = 19) ∧ σ = [some (.ref d), some (.ref p), some (.str signs37), some (.int ((m : Int) + 1)), none, none] ∧ Kp (· = d) H H1 ∧ H1 p = some (.lst (kws.map V.str)) ∧ H1 d = some (.lst [.int n2]), ?_, fun σ H1 hm => ?_⟩
  · refine ⟨_, rfl, d, n1, 9, rfl, u1, by decide, by decide, fun n2 r2 r20 r21 => ?_⟩
    obtain ⟨s2, t2, u2⟩ := step (n' := n2) s1 t1
    refine ⟨rfl, _, rfl, ite2 (fun e => ?_) (fun e => ?_)⟩
    · exact ⟨19, n2, .inr rfl, rfl, s2, t2, u2⟩
    · refine ⟨r1.toNat, n2, .inl (by omega), ?_, s2, t2, u2⟩
      have e1 : (1 : Int) + r1 = ((r1.toNat : Nat) : Int) + 1 := by omega
      rw [← e1]
      rfl
  obtain ⟨m, n2, hm, rfl, s2, t2, u2⟩ := hm
  -- the first sign
  refine ⟨_, rfl, _, rfl, d, n2, 26, rfl, u2, by decide, by decide, fun n3 r3 r30 r31 => ?_⟩
  obtain ⟨s3, t3, u3⟩ := step (n' := n3) s2 t2
  obtain ⟨c, e3, _, l3⟩ := sign_of r30 (by omega)
  refine ⟨signs37, r3, c, rfl, rfl, hz, e3, ?_⟩
  have em : ((m : Int) + 1 - 1) = (m : Int) := by omega
  refine ⟨_, rfl, _, _, rfl, rfl, (m : Int), (by show [V.int ((m : Int) + 1 - 1)] = [V.int (m : Int)]; rw [em]), by omega, by omega, ?_⟩
  rw [show ((m : Int)).toNat = m from Int.toNat_natCast m]
  refine for_range (lo := 0) (n := m) (fun i σ H' => ∃ (x : Str) (n4 : Int) (y : Option V), Pre x i ∧ σ = [some (.ref d), some (.ref p), some (.str signs37), some (.int ((m : Int) + 1)), some (.str x), y] ∧ Kp (· = d) H H' ∧ H' p = some (.lst (kws.map V.str)) ∧ H' d = some (.lst [.int n4]))
    ⟨_, n3, none, Pre.start (l3 r31), rfl, s3, t3, u3⟩ (fun i σ H' hi hp' => ?_) (fun σ H' hp' => ?_)
  · obtain ⟨x, n4, y, px, rfl, s4, t4, u4⟩ := hp'
    refine ⟨_, rfl, _, rfl, _, rfl, d, n4, 37, rfl, u4, by decide, by decide, fun n5 r5 r50 r51 => ?_⟩
    obtain ⟨s5, t5, u5⟩ := step (n' := n5) s4 t4
    obtain ⟨c5, e5, g5, _⟩ := sign_of r50 r51
    refine ⟨signs37, r5, c5, rfl, rfl, hz, e5, ?_⟩
    have lx := px.len
    refine ⟨_, _, rfl, rfl, ?_, _, n5, _, px.more g5, rfl, s5, t5, u5⟩
    show x.length + 1 ≤ sizeLine
    exact sizes (by omega)
  · obtain ⟨x, n4, y, px, rfl, s4, t4, u4⟩ := hp'
    have lx := px.len
    refine ⟨_, rfl, _, rfl, p, _, rfl, .inl (SqL.of t4), rfl, flat_strs _, _, rfl, ite2 (fun e => ?_) (fun e => ?_)⟩
    · refine ⟨_, rfl, _, rfl, x, rfl, sizes (by omega), _, _, rfl, rfl, ?_, ?_⟩
      · have := cutS_length x none (some 1)
        show _ + 1 ≤ sizeLine
        exact sizes (by omega)
      · obtain ⟨j, pj, ej⟩ := under_ok (n := 1) px (Nat.le_refl 1)
        have ej' : j = 1 := by omega
        have lj := pj.len
        exact q _ n4 H' (pj.name (by omega) (kw_no95 (by rw [cs_under]; simp))) (.inl (by show (under x 1).length ≤ 5; omega)) s4 u4
    · have e' : inV (.str x) (kws.map V.str) = false := by simpa using e
      rw [inV_str] at e'
      have nk : x ∉ kws := of_decide_eq_false e'
      refine ⟨_, rfl, q x n4 H' (px.name (by omega) nk) ?_ s4 u4⟩
      unfold NmLen
      omega
/-! ### _law_names -/
def spNames : Sp := fun vs H Q _ => ∃ (d : Addr) (n : Int) (c : Nat), vs = [.ref d, .int (c : Int)] ∧ H d = some (.lst [.int n]) ∧ c ≤ 4 ∧
  ∀ (xs : List Str) (n' : Int) (H' : Hp) (r : Addr), xs.length = c → (∀ x ∈ xs, Nm x) → xs.Nodup → Kp (· = d) H H' → H r = none → H' r = some (.lst (xs.map V.str)) → H' d = some (.lst [.int n']) → Q (.ref r) H'
theorem ok_names (B : Bi mg) {f : Addr} {fd : FuncData} (A : At K mg d_l_names "_law_names" f fd) (c1 : Cal P w K mg base "_law_name" ["_law_digits_here"] 2 spName) : Cal P w K mg base "_law_names" ["_law_digits_here", "_law_count"] 3 spNames := by
  refine ⟨f, fd, A.F.ok sc_l_names (fun vs H Q E h => ?_) (fun cdv A outer s H vs Q E hr h => ?_), A.m, A.F.kp, A.F.bindsN fun _ _ _ _ _ _ us hl => match us, hl with | [_, _], _ => rfl⟩
  · obtain ⟨d, n, c, rfl, _⟩ := h
    rfl
  obtain ⟨d, n, c, rfl, hd, hc, q⟩ := h
  obtain ⟨f1, fd1, G1, m1, k1, b1⟩ := c1
  refine ⟨_, PSs.nox (pss_cons (ps_set (i := 2) sc_l_names.nd rfl (.inl rfl) (pe_lst pa_nil))
    (pss_cons (ps_for PassesOwn.never rfl (pi_range1 (by rfl) B.range (pa_cons (pv 1) pa_nil)) (pg_name (i := 3) sc_l_names.nd rfl (.inl rfl))
      (pss_cons (ps_set (i := 4) sc_l_names.nd rfl (.inl rfl) (pe_call G1 hr (by rfl) m1 k1 b1 .nil pass0 (pa_cons (pv 0) pa_nil)))
      (pss_cons (ps_set (i := 5) sc_l_names.nd rfl (.inl rfl) (pv 4))
      (pss_cons (ps_for PassesOwn.never rfl (pi_range1 (by rfl) B.range (pa_cons (pe_op op_add (pv 1) pe_int) pa_nil)) (pg_name (i := 6) sc_l_names.nd rfl (.inl rfl))
        (pss_one (ps_if (pt_cmpR op_in_seq (pv 5) (pv 2) (by rfl))
          (pss_one (ps_set (i := 5) sc_l_names.nd rfl (.inl rfl) (pe_op op_add_str (pe_op op_add_str (pe_slice sl_str (pv 4) po_none (po_some pe_int)) pe_str) (pe_callTy call_str_int (by rfl) B.str bt_str (pa_cons (pv 6) pa_nil))))) pss_nil)))
      (pss_one (ps_expr (pe_bm PySem.F.plainAttrs_list PySem.F.slot_list_append PySem.F.type_list_append mt_append (pv 2) (pa_cons (pv 5) pa_nil))))))))
    (pss_one (ps_ret (pv 2))))), ?_⟩
  refine ⟨Nat.zero_le _, fun r hr0 => ?_⟩
  have hdr : d ≠ r := ne_of_none hd hr0
  refine ⟨_, rfl, (c : Int), rfl, by omega, by omega, ?_⟩
  rw [show ((c : Int)).toNat = c from Int.toNat_natCast c]
  refine for_range (lo := 0) (n := c) (fun i σ H1 => ∃ (xs : List Str) (n1 : Int) (y3 y4 y5 y6 : Option V), xs.length = i ∧ (∀ x ∈ xs, Nm x) ∧ xs.Nodup ∧ σ = [some (.ref d), some (.int (c : Int)), some (.ref r), y3, y4, y5, y6] ∧ Kp (· = d) H H1 ∧ H1 r = some (.lst (xs.map V.str)) ∧ H1 d = some (.lst [.int n1]))
    ⟨[], n, _, _, _, _, rfl, (fun _ m => nomatch m), List.nodup_nil, rfl, Kp.new hr0, upd_same, by rw [upd_ne hdr]; exact hd⟩ (fun i σ H1 hi hp => ?_) (fun σ H1 hp => ?_)
  · obtain ⟨xs, n1, y3, y4, y5, y6, lx, ok, nd, rfl, s1, t1, u1⟩ := hp
    -- first = name = _law_name(digits)
    refine ⟨_, rfl, d, n1, rfl, u1, fun x n2 H2 xo xl s2 u2 => ?_⟩
    have t2 : H2 r = some (.lst (xs.map V.str)) := s2.same r _ (fun e => hdr e.symm) t1
    have s2' := s1.trans s2
    refine ⟨_, rfl, ?_⟩
    have e1 : (fun i j => V.int (i + j)) ((c : Int)) 1 = V.int ((c + 1 : Nat) : Int) := by
      show V.int ((c : Int) + 1) = _
      congr 1
    refine ⟨_, rfl, _, _, rfl, rfl, ((c + 1 : Nat) : Int), by rw [e1], by omega, by omega, ?_⟩
    rw [show (((c + 1 : Nat) : Int)).toNat = c + 1 from Int.toNat_natCast _]
    refine for_range (lo := 0) (n := c + 1) (fun t σ H' => ∃ (y : Str) (y6 : Option V), H' = H2 ∧ Nm y ∧ Iv x xs t y ∧ σ = [some (.ref d), some (.int (c : Int)), some (.ref r), some (.int (0 + (i : Int))), some (.str x), some (.str y), y6])
      ⟨x, y6, rfl, first_nm xo xl, .inr ⟨fun j hj => absurd hj (Nat.not_lt_zero j), rfl⟩, rfl⟩ (fun t σ H' ht hp' => ?_) (fun σ H' hp' => ?_)
    · obtain ⟨y, y6, rfl, ny, iv, rfl⟩ := hp'
      refine ⟨_, rfl, _, rfl, r, _, rfl, .inl (SqL.of t2), rfl, flat_strs _, _, rfl, ite2 (fun e => ?_) (fun e => ?_)⟩
      · have e' : inV (.str y) (xs.map V.str) = true := e
        rw [inV_str] at e'
        have hx20 := xo.len.2
        have ht5 : t < 5 := by omega
        have cl := cutS_length x none (some 16)
        have nt : (0 : Int) + (t : Int) = (t : Int) := by omega
        have l1 : (toString (t : Int) : Str).length = 1 := by
          rw [len_cs, cs_num ht5]
          rfl
        have un : (under x 16).length ≤ 21 := by
          show (cutS x none (some 16) ++ ("_" : Str)).length ≤ 21
          rw [len_app]
          have : ("_" : Str).length = 1 := by decide +kernel
          omega
        refine ⟨_, rfl, _, rfl, x, rfl, sizes (by omega), _, _, rfl, rfl, ?_, _, rfl, (t : Int), by rw [nt], ?_, _, _, rfl, rfl, ?_, nm x (t + 1), _, rfl, cand_nm xo xl ht5, iv.turn (of_decide_eq_true e'), rfl⟩
        · show _ + 1 ≤ sizeLine
          exact sizes (by omega)
        · show t.log2 < 1920
          exact Nat.lt_of_le_of_lt (Nat.log2_le_self t) (by omega)
        · show (under x 16).length + (toString (t : Int) : Str).length ≤ sizeLine
          rw [l1]
          exact sizes (by omega)
      · have e' : inV (.str y) (xs.map V.str) = false := by simpa using e
        rw [inV_str] at e'
        exact ⟨y, _, rfl, ny, .inl (of_decide_eq_false e'), rfl⟩
    · obtain ⟨y, y6, rfl, ny, iv, rfl⟩ := hp'
      have hn := iv.last xo xl hc (by omega)
      refine ⟨_, rfl, .inl ⟨rfl, _, SqL.of t2⟩, _, rfl, r, _, _, rfl, rfl, t2, ?_, xs ++ [y], n2, _, _, _, _, ?_, fun z hz => ?_, ?_, rfl, ?_, ?_, ?_⟩
      · rw [List.length_map]
        exact sizes1 (by omega)
      · rw [List.length_append, lx]
        rfl
      · rcases List.mem_append.mp hz with hz | hz
        · exact ok z hz
        · rw [List.mem_singleton.mp hz]
          exact ny
      · refine List.nodup_append.mpr ⟨nd, by simp, fun a ha b hb => ?_⟩
        rw [List.mem_singleton.mp hb]
        exact fun e : a = y => hn (by rw [← e]; exact ha)
      · refine ⟨fun b o nb e => ?_, fun b hb e => ?_⟩
        · rw [upd_ne (ne_of_none e hr0)]
          exact s2'.same b o nb e
        · rw [upd_ne (show b ≠ r from fun z => hdr (hb.symm.trans z))]
          exact s2'.mt b hb e
      · rw [upd_same, List.map_append]
        rfl
      · rw [upd_ne hdr]
        exact u2
  · obtain ⟨xs, n1, y3, y4, y5, y6, lx, ok, nd, rfl, s1, t1, u1⟩ := hp
    exact ⟨_, rfl, q xs n1 H1 r lx ok nd s1 hr0 t1 u1⟩
end
end K53

/-! KC -/
/-! the law's statements: _law_plain, _law_statements -/
namespace K53
open PySem PySem.Spec PyProof.Rows L2
theorem pick {xs : List Str} {r : Int} (h0 : 0 ≤ r) (h1 : r < (xs.length : Int)) : ∃ x, x ∈ xs ∧ atI (xs.map V.str) r = some (.str x) := by
  have hk : r.toNat < xs.length := by omega
  have er : r = ((r.toNat : Nat) : Int) := by omega
  exact ⟨xs[r.toNat], List.getElem_mem hk, at_of er (by rw [List.getElem?_map, List.getElem?_eq_getElem hk] <;> rfl)⟩
section
variable {D : Addr → Prop} {K : PySem.W.Frag} {Ht Ha Hb Hd : Hp}
theorem dp_made {v : V} {dat : PyData} (a : Kp D Ht Ha) (b : Kp D Hb Hd) (hD : ∀ x, D x → mu (Ht x) = true) (h : Dp K (nw Ha Hb) v dat) : Dp K (nw Ht Hd) v dat :=
  Dp.up (fun c o e => nw_fwd b hD c o (nw_since a c o e)) _ _ h
/-- a new tuple of such things -/
theorem dp_tuple {p : Addr} {xs : List V} {ds : List PyData} (hp : Ht p = none) (h : DpAll K (nw Ht (upd Hd p (.tup xs))) xs ds) : Dp K (nw Ht (upd Hd p (.tup xs))) (.ref p) (.tuple ds) :=
  .tup (SqT.of (nw_new hp upd_same)) h
end
theorem vac {P : Program} {w : World} {K : PySem.W.Frag} {mg : Str → Option Value} {base : Heap} {k : Nat} {f : Addr} {fd : FuncData} {ps : List Str} {sp : Sp} (no : ∀ vs H Q E, ¬ sp vs H Q E) : FnOk P w K mg base CX0 k f fd ps sp :=
  ⟨fun vs H Q E h => absurd h (no vs H Q E), fun A outer s H args us vs Q E _ _ _ _ h => absurd h (no vs H Q E)⟩
section
variable {P : Program} {w : World} {K : PySem.W.Frag} {mg : Str → Option Value} {base : Heap}
/-- a list of names, apart from the digits -/
structure NmL (K : PySem.W.Frag) (H : Hp) (d a : Addr) (xs : List Str) : Prop where
  at_ : SqL K H a (xs.map V.str)
  ne : a ≠ d
  ok : ∀ x ∈ xs, NameOk x
  few : xs.length ≤ 100
theorem NmL.keep {H H' : Hp} {d a : Addr} {xs : List Str} (h : NmL K H d a xs) (k : Kp (· = d) H H') : NmL K H' d a xs := ⟨k.seq h.ne h.at_, h.ne, h.ok, h.few⟩
/-! ### _law_plain -/
def spPlain (K : PySem.W.Frag) : Sp := fun vs H Q _ => ∃ (d a : Addr) (n : Int) (xs : List Str), vs = [.ref d, .ref a] ∧ H d = some (.lst [.int n]) ∧ NmL K H d a xs ∧ xs ≠ [] ∧
  ∀ (p : Addr) (pl : Pl) (n' : Int) (H' : Hp), pl.Ok → Kp (· = d) H H' → H' d = some (.lst [.int n']) → Dp K (nw H H') (.ref p) pl.data → Q (.ref p) H'
theorem ok_plain (B : Bi mg) {f : Addr} {fd : FuncData} (A : At K mg d_l_plain "_law_plain" f fd) (c1 : Cal P w K mg base "_law_digit" ["_law_digits_here", "_law_many"] 1 spDigit) : Cal P w K mg base "_law_plain" ["_law_digits_here", "_law_names_here"] 2 (spPlain K) := by
  refine ⟨f, fd, A.F.ok sc_l_plain (fun vs H Q E h => ?_) (fun cdv A outer s H vs Q E hr h => ?_), A.m, A.F.kp, A.F.bindsN fun _ _ _ _ _ _ us hl => match us, hl with | [_, _], _ => rfl⟩
  · obtain ⟨d, a, n, xs, rfl, _⟩ := h
    rfl
  obtain ⟨d, a, n, xs, rfl, hd, hx, hne, q⟩ := h
  obtain ⟨f1, fd1, G1, m1, k1, b1⟩ := c1
  refine ⟨_, PSs.nox (pss_cons (ps_set (i := 2) sc_l_plain.nd rfl (.inl rfl) (pe_call G1 hr (by rfl) m1 k1 b1 .nil pass0 (pa_cons (pv 0) (pa_cons pe_int pa_nil))))
    (pss_cons (ps_set (i := 3) sc_l_plain.nd rfl (.inl rfl) (pe_ix ix_list (pv 1) (pe_call G1 hr (by rfl) m1 k1 b1 .nil pass0 (pa_cons (pv 0) (pa_cons (pe_callB call_len_seq (by rfl) B.len PySem.boot_len (pa_cons (pv 1) pa_nil)) pa_nil))) (fun _ _ => rfl)))
    (pss_cons (ps_if (PW.pt (pw_or (pt_cmpR op_eq (pv 2) pe_int (nomark _)) (pw_or1 (pt_cmpR op_eq (pv 2) pe_int (nomark _))))) (pss_one (ps_ret (pe_tup (pa_cons pe_str (pa_cons (pv 3) pa_nil))))) pss_nil)
    (pss_cons (ps_if (pt_cmpR op_eq (pv 2) pe_int (nomark _)) (pss_one (ps_ret (pe_tup (pa_cons pe_str (pa_cons (pv 3) (pa_cons (pe_cmpR op_eq (pe_call G1 hr (by rfl) m1 k1 b1 .nil pass0 (pa_cons (pv 0) (pa_cons pe_int pa_nil))) pe_int (nomark _)) pa_nil)))))) pss_nil)
    (pss_cons (ps_if (pt_cmpR op_eq (pv 2) pe_int (nomark _)) (pss_one (ps_ret (pe_tup (pa_cons pe_str (pa_cons (pv 3) (pa_cons (pe_cmpR op_eq (pe_call G1 hr (by rfl) m1 k1 b1 .nil pass0 (pa_cons (pv 0) (pa_cons pe_int pa_nil))) pe_int (nomark _)) pa_nil)))))) pss_nil)
    (pss_cons (ps_if (pt_cmpR op_eq (pv 2) pe_int (nomark _)) (pss_one (ps_ret (pe_tup (pa_cons pe_str (pa_cons (pv 3) pa_nil))))) pss_nil)
    (pss_one (ps_ret (pe_tup (pa_cons pe_str pa_nil)))))))))), ?_⟩
  have hD : ∀ x, x = d → mu (H x) = true := fun x e => by rw [e, hd]; rfl
  have few : ∀ {n : Nat}, n ≤ 3 → n ≤ sizeLine := fun h => sizes (by omega)
  refine ⟨_, rfl, d, n, 6, rfl, hd, by decide, by decide, fun n1 r1 _ _ => ?_⟩
  have s1 : Kp (· = d) H (upd H d (.lst [.int n1])) := Kp.put rfl rfl
  have x1 := hx.keep s1
  have lpos : 0 < xs.length := by
    cases xs with
    | nil => exact absurd rfl hne
    | cons _ _ => exact Nat.succ_pos _
  have hfew := hx.few
  refine ⟨_, rfl, _, rfl, _, rfl, a, _, rfl, .inl x1.at_, d, n1, ((xs.map V.str).length : Nat), rfl, upd_same, by rw [List.length_map]; omega, by rw [List.length_map]; omega, fun n2 r2 r20 r21 => ?_⟩
  rw [List.length_map] at r21
  have s2 : Kp (· = d) H (upd (upd H d (.lst [.int n1])) d (.lst [.int n2])) := s1.trans (Kp.put rfl rfl)
  have x2 := hx.keep s2
  have u2 : (upd (upd H d (.lst [.int n1])) d (.lst [.int n2])) d = some (.lst [.int n2]) := upd_same
  generalize upd (upd H d (.lst [.int n1])) d (.lst [.int n2]) = H2 at s2 x2 u2
  obtain ⟨x, hm, hat⟩ := pick (xs := xs) r20 r21
  have xo := hx.ok x hm
  -- a pair: the word and the name
  have two : ∀ (k : Str) (pl : Pl), pl.Ok → pl.data = .tuple [.str k, .str x] → ∀ p, H2 p = none → Q (.ref p) (upd H2 p (.tup [.str k, .str x])) := fun k pl ok e p hp => by
    have hp0 : H p = none := s2.free (fun z => by rw [z, u2] at hp; cases hp) hp
    refine q p pl n2 _ ok (s2.trans (Kp.new hp)) (by rw [upd_ne (fun z => by rw [← z, u2] at hp; cases hp)]; exact u2) ?_
    rw [e]
    exact dp_tuple hp0 (.cons (.str k) (.cons (.str x) .nil))
  have three : ∀ (k : Str) (pl : Bool → Pl), (∀ b, (pl b).Ok) → (∀ b, (pl b).data = .tuple [.str k, .str x, .bool b]) → ∀ (n3 : Int) (b : Bool) p, (upd H2 d (.lst [.int n3])) p = none → Q (.ref p) (upd (upd H2 d (.lst [.int n3])) p (.tup [.str k, .str x, .bl b])) := fun k pl ok e n3 b p hp => by
    have s3 : Kp (· = d) H (upd H2 d (.lst [.int n3])) := s2.trans (Kp.put rfl rfl)
    have hpd : d ≠ p := fun z => by rw [← z, upd_same] at hp; cases hp
    have hp0 : H p = none := s3.free (fun z => hpd z.symm) hp
    refine q p (pl b) n3 _ (ok b) (s3.trans (Kp.new hp)) (by rw [upd_ne hpd]; exact upd_same) ?_
    rw [e b]
    exact dp_tuple hp0 (.cons (.str k) (.cons (.str x) (.cons (.bl b) .nil)))
  refine ⟨a, xs.map V.str, r2, _, rfl, rfl, x2.at_, hat, ?_⟩
  -- kind == 0 or kind == 5
  have go1 : ∀ p, H2 p = none → Q (.ref p) (upd H2 p (.tup [.str "move", .str x])) := two "move" (.move x) xo rfl
  refine ⟨_, rfl, rfl, _, rfl, ite2 (fun e => ?_) (fun e => ?_)⟩
  · exact ⟨_, rfl, few (by show 2 ≤ 3; decide), fun p hp => go1 p hp⟩
  refine ⟨_, rfl, rfl, _, rfl, ite2 (fun e => ?_) (fun e => ?_)⟩
  · exact ⟨_, rfl, few (by show 2 ≤ 3; decide), fun p hp => go1 p hp⟩
  refine ⟨_, rfl, rfl, _, rfl, ite2 (fun e => ?_) (fun e => ?_)⟩
  · refine ⟨_, rfl, _, rfl, d, n2, 2, rfl, u2, by decide, by decide, fun n3 r3 _ _ => ⟨rfl, few (by show 3 ≤ 3; decide), fun p hp => ?_⟩⟩
    exact three "set" (.set x) (fun _ => xo) (fun _ => rfl) n3 _ p hp
  refine ⟨_, rfl, rfl, _, rfl, ite2 (fun e => ?_) (fun e => ?_)⟩
  · refine ⟨_, rfl, _, rfl, d, n2, 2, rfl, u2, by decide, by decide, fun n3 r3 _ _ => ⟨rfl, few (by show 3 ≤ 3; decide), fun p hp => ?_⟩⟩
    exact three "wait" (.wait x) (fun _ => xo) (fun _ => rfl) n3 _ p hp
  refine ⟨_, rfl, rfl, _, rfl, ite2 (fun e => ?_) (fun e => ?_)⟩
  · exact ⟨_, rfl, few (by show 2 ≤ 3; decide), fun p hp => two "take" (.take x) xo rfl p hp⟩
  · refine ⟨few (by show 1 ≤ 3; decide), fun p hp => ?_⟩
    have hp0 : H p = none := s2.free (fun z => by rw [z, u2] at hp; cases hp) hp
    refine q p .release n2 _ trivial (s2.trans (Kp.new hp)) (by rw [upd_ne (fun z => by rw [← z, u2] at hp; cases hp)]; exact u2) ?_
    exact dp_tuple hp0 (.cons (.str "release") .nil)
/-! ### _law_statements -/
/-- n: more than the depth -/
def spStmts (K : PySem.W.Frag) (n : Nat) : Sp := fun vs H Q _ => ∃ (d a c : Addr) (z : Int) (xs ys : List Str) (dep most : Nat), vs = [.ref d, .ref a, .ref c, .int (dep : Int), .int (most : Int)] ∧ dep < n ∧ most ≤ 6 ∧ H d = some (.lst [.int z]) ∧ NmL K H d a xs ∧ xs ≠ [] ∧ NmL K H d c ys ∧
  ∀ (p : Addr) (l : List S) (z' : Int) (H' : Hp), l.length ≤ most → OkL dep l → Kp (· = d) H H' → H' d = some (.lst [.int z']) → Dp K (nw H H') (.ref p) (.list (dataL l)) → Q (.ref p) H'
abbrev psStmts : List Str := ["_law_digits_here", "_law_names_here", "_law_calls", "_law_depth", "_law_most"]
theorem ok_stmts (B : Bi mg) {f : Addr} {fd : FuncData} (A : At K mg d_l_statements "_law_statements" f fd) (c1 : Cal P w K mg base "_law_digit" ["_law_digits_here", "_law_many"] 1 spDigit)
    (c2 : Cal P w K mg base "_law_plain" ["_law_digits_here", "_law_names_here"] 2 (spPlain K)) {n : Nat} (cr : FnOk P w K mg base CX0 (n + 2) f fd psStmts (spStmts K n)) : FnOk P w K mg base CX0 (n + 3) f fd psStmts (spStmts K (n + 1)) := by
  refine A.F.ok sc_l_statements (fun vs H Q E h => ?_) (fun cdv A' outer s H vs Q E hr h => ?_)
  · obtain ⟨d, a, c, z, xs, ys, dep, mo, rfl, _⟩ := h
    rfl
  obtain ⟨d, a, c, z, xs, ys, dep, mo, rfl, hdep, hmo, hd, hx, hne, hy, q⟩ := h
  obtain ⟨f1, fd1, G1, m1, k1, b1⟩ := c1.mono (show 1 ≤ n + 2 by omega)
  obtain ⟨f2, fd2, G2, m2, k2, b2⟩ := c2.mono (show 2 ≤ n + 2 by omega)
  have b3 : Binds K fd psStmts [] := A.F.bindsN fun _ _ _ _ _ _ us hl => match us, hl with | [_, _, _, _, _], _ => rfl
  have nd := sc_l_statements.nd
  refine ⟨_, PSs.nox (pss_cons (ps_set (i := 5) nd rfl (.inl rfl) (pe_lst pa_nil))
    (pss_cons (ps_for PassesOwn.never rfl (pi_range1 (by rfl) B.range (pa_cons (pe_call G1 hr (by rfl) m1 k1 b1 .nil pass0 (pa_cons (pv 0) (pa_cons (pe_op op_add (pv 4) pe_int) pa_nil))) pa_nil)) (pg_name (i := 6) nd rfl (.inl rfl))
      (pss_cons (ps_set (i := 7) nd rfl (.inl rfl) (pe_call G1 hr (by rfl) m1 k1 b1 .nil pass0 (pa_cons (pv 0) (pa_cons pe_int pa_nil))))
      (pss_one (ps_if (PW.pt (pw_and (pt_cmpR op_eq (pv 7) pe_int (nomark _)) (pw_and1 (pt_cmpR op_gt (pv 3) pe_int (nomark _)))))
        (pss_cons (ps_set (i := 8) nd rfl (.inl rfl) (pe_ix ix_list (pv 1) (pe_call G1 hr (by rfl) m1 k1 b1 .nil pass0 (pa_cons (pv 0) (pa_cons (pe_callB call_len_seq (by rfl) B.len PySem.boot_len (pa_cons (pv 1) pa_nil)) pa_nil))) (fun _ _ => rfl)))
        (pss_cons (ps_set (i := 9) nd rfl (.inl rfl) (pe_call cr hr (by rfl) A.m A.F.kp b3 .nil pass0 (pa_cons (pv 0) (pa_cons (pv 1) (pa_cons (pv 2) (pa_cons (pe_op op_sub (pv 3) pe_int) (pa_cons pe_int pa_nil)))))))
        (pss_cons (ps_set (i := 10) nd rfl (.inl rfl) (pe_call cr hr (by rfl) A.m A.F.kp b3 .nil pass0 (pa_cons (pv 0) (pa_cons (pv 1) (pa_cons (pv 2) (pa_cons (pe_op op_sub (pv 3) pe_int) (pa_cons pe_int pa_nil)))))))
        (pss_one (ps_expr (pe_bm PySem.F.plainAttrs_list PySem.F.slot_list_append PySem.F.type_list_append mt_append (pv 5) (pa_cons (pe_tup (pa_cons pe_str (pa_cons (pv 8) (pa_cons (pv 9) (pa_cons (pv 10) pa_nil))))) pa_nil)))))))
        (pss_one (ps_if (PW.pt (pw_and (pt_cmpR op_eq (pv 7) pe_int (nomark _)) (pw_and1 (pt_cmpR op_gt (pv 3) pe_int (nomark _)))))
          (pss_cons (ps_set (i := 11) nd rfl (.inl rfl) (pe_op op_add pe_int (pe_call G1 hr (by rfl) m1 k1 b1 .nil pass0 (pa_cons (pv 0) (pa_cons pe_int pa_nil)))))
          (pss_one (ps_expr (pe_bm PySem.F.plainAttrs_list PySem.F.slot_list_append PySem.F.type_list_append mt_append (pv 5) (pa_cons (pe_tup (pa_cons pe_str (pa_cons (pv 11) (pa_cons (pe_call cr hr (by rfl) A.m A.F.kp b3 .nil pass0 (pa_cons (pv 0) (pa_cons (pv 1) (pa_cons (pv 2) (pa_cons (pe_op op_sub (pv 3) pe_int) (pa_cons pe_int pa_nil)))))) pa_nil)))) pa_nil)))))
          (pss_one (ps_if (PW.pt (pw_and (pt_cmpR op_eq (pv 7) pe_int (nomark _)) (pw_and1 (pt_cmpR op_gt (pe_callB call_len_seq (by rfl) B.len PySem.boot_len (pa_cons (pv 2) pa_nil)) pe_int (nomark _)))))
            (pss_one (ps_expr (pe_bm PySem.F.plainAttrs_list PySem.F.slot_list_append PySem.F.type_list_append mt_append (pv 5) (pa_cons (pe_tup (pa_cons pe_str (pa_cons (pe_ix ix_list (pv 2) (pe_call G1 hr (by rfl) m1 k1 b1 .nil pass0 (pa_cons (pv 0) (pa_cons (pe_callB call_len_seq (by rfl) B.len PySem.boot_len (pa_cons (pv 2) pa_nil)) pa_nil))) (fun _ _ => rfl)) pa_nil))) pa_nil))))
            (pss_one (ps_expr (pe_bm PySem.F.plainAttrs_list PySem.F.slot_list_append PySem.F.type_list_append mt_append (pv 5) (pa_cons (pe_call G2 hr (by rfl) m2 k2 b2 .nil pass0 (pa_cons (pv 0) (pa_cons (pv 1) pa_nil))) pa_nil))))))))))))
    (pss_one (ps_ret (pv 5))))), ?_⟩
  have hD : ∀ x, x = d → mu (H x) = true := fun x e => by rw [e, hd]; rfl
  have few : ∀ {n : Nat}, n ≤ 4 → n ≤ sizeLine := fun h => sizes (by omega)
  have lx := hx.few
  have ly := hy.few
  have lxp : 0 < xs.length := by
    cases xs with
    | nil => exact absurd rfl hne
    | cons _ _ => exact Nat.succ_pos _
  -- out = []
  refine ⟨Nat.zero_le _, fun o ho => ?_⟩
  have hdo : d ≠ o := ne_of_none hd ho
  have nodo : ¬ (o = d) := fun e => hdo e.symm
  -- range(digit(most + 1))
  refine ⟨_, rfl, _, rfl, _, _, rfl, rfl, d, z, _, rfl, by rw [upd_ne hdo]; exact hd, by omega, by omega, fun z1 r1 r10 r11 => ?_⟩
  have s1 : Kp (· = d) H (upd (upd H o (.lst [])) d (.lst [.int z1])) := (Kp.new ho).trans (Kp.put rfl rfl)
  refine ⟨r1, rfl, by omega, by omega, ?_⟩
  obtain ⟨Pv, ePv⟩ : ∃ Pv : Nat → L2.St → Hp → Prop, Pv = fun i σ H1 => ∃ (vs : List V) (l : List S) (z2 : Int) (y6 y7 y8 y9 y10 y11 : Option V), l.length = i ∧ OkL dep l ∧ σ = [some (.ref d), some (.ref a), some (.ref c), some (.int (dep : Int)), some (.int (mo : Int)), some (.ref o), y6, y7, y8, y9, y10, y11] ∧
      Kp (· = d) H H1 ∧ Bl K H H1 o vs (dataL l) ∧ H1 d = some (.lst [.int z2]) := ⟨_, rfl⟩
  refine for_range (lo := 0) (n := r1.toNat) Pv (by
      rw [ePv]
      exact ⟨[], [], z1, _, _, _, _, _, _, rfl, OkL.nil, rfl, s1, by rw [dataL_nil]; exact (Bl.start ho).keep (D := (· = d)) (Kp.put rfl rfl) nodo hD, upd_same⟩) (fun i σ H1 hi hp => ?_) (fun σ H1 hp => ?_)
  · rw [ePv] at hp
    obtain ⟨vs, l, z2, y6, y7, y8, y9, y10, y11, ll, okl, rfl, s2, bl, u2⟩ := hp
    have vl := bl.len
    rw [dataL_map, List.length_map] at vl
    have hz : vs.length < sizeLine := sizes1 (by omega)
    have o1 := bl.at_
    have hDt : ∀ x, x = d → mu (H1 x) = true := fun x e => by rw [e, u2]; rfl
    -- an item put behind
    have put : ∀ {H2 : Hp} {v : V} {st : S} {z3 : Int} {y7 y8 y9 y10 y11 : Option V}, Ok dep st → Kp (· = d) H1 H2 → H2 d = some (.lst [.int z3]) → Dp K (nw H1 H2) v st.data →
        H2 o = some (.lst vs) ∧ vs.length < sizeLine ∧ Pv (i + 1) [some (.ref d), some (.ref a), some (.ref c), some (.int (dep : Int)), some (.int (mo : Int)), some (.ref o), some (.int (0 + (i : Int))), y7, y8, y9, y10, y11] (upd H2 o (.lst (vs ++ [v]))) := fun {H2 v st z3 y7 y8 y9 y10 y11} ok k u dv => by
      have b2 := (bl.keep k nodo hD).push s2 o1 dv
      refine ⟨k.same o _ nodo o1, hz, ?_⟩
      rw [ePv]
      refine ⟨vs ++ [v], l ++ [st], z3, _, _, _, _, _, _, by rw [List.length_append, ll]; rfl, fun t m => ?_, rfl, ?_, ?_, ?_⟩
      · rcases List.mem_append.mp m with m | m
        · exact okl t m
        · rw [List.mem_singleton.mp m]
          exact ok
      · refine ⟨fun b x nb e => ?_, fun b hb e => ?_⟩
        · rw [upd_ne (ne_of_none e ho)]
          exact (s2.trans k).same b x nb e
        · rw [upd_ne (show b ≠ o from fun z => hdo (hb.symm.trans z))]
          exact (s2.trans k).mt b hb e
      · rw [dataL_app, dataL_cons, dataL_nil]
        exact b2
      · rw [upd_ne hdo]
        exact u
    -- kind
    refine ⟨_, rfl, d, z2, 8, rfl, u2, by decide, by decide, fun z3 r3 _ _ => ?_⟩
    have s3 : Kp (· = d) H1 (upd H1 d (.lst [.int z3])) := Kp.put rfl rfl
    have u3 : (upd H1 d (.lst [.int z3])) d = some (.lst [.int z3]) := upd_same
    generalize upd H1 d (.lst [.int z3]) = H3 at s3 u3
    have x3 := hx.keep (s2.trans s3)
    have w3 := hy.keep (s2.trans s3)
    have ty : tyV K "list" (.ref o) H3 := .inl ⟨rfl, _, SqL.of (s3.same o _ nodo o1)⟩
    -- a call of its own
    have evs : 0 < dep → [V.ref d, V.ref a, V.ref c, V.int ((dep : Int) - 1), V.int 2] = [V.ref d, V.ref a, V.ref c, V.int ((dep - 1 : Nat) : Int), V.int ((2 : Nat) : Int)] := fun h0 => by
      rw [show ((dep - 1 : Nat) : Int) = (dep : Int) - 1 by omega]
      rfl
    refine ⟨_, rfl, rfl, _, rfl, ite2 (fun e0 => ⟨_, rfl, _, _, rfl, rfl, _, rfl, ite2 (fun e1 => ?_) (fun e1 => ?_)⟩) (fun e0 => iteF ?_)⟩
    · skip
      have h0 : 0 < dep := by
        have := of_decide_eq_true e1
        omega
      -- name
      refine ⟨_, rfl, _, rfl, _, rfl, a, _, rfl, .inl x3.at_, d, z3, ((xs.map V.str).length : Nat), rfl, u3, by rw [List.length_map]; omega, by rw [List.length_map]; omega, fun z4 r4 r40 r41 => ?_⟩
      rw [List.length_map] at r41
      have s4 := s3.trans (Kp.put (D := (· = d)) (H := H3) (p := d) (o := .lst [.int z4]) rfl rfl)
      have u4 : (upd H3 d (.lst [.int z4])) d = some (.lst [.int z4]) := upd_same
      generalize upd H3 d (.lst [.int z4]) = H4 at s4 u4
      obtain ⟨x, hm, hat⟩ := pick (xs := xs) r40 r41
      refine ⟨a, xs.map V.str, r4, _, rfl, rfl, (hx.keep (s2.trans s4)).at_, hat, ?_⟩
      -- first, second
      refine ⟨_, rfl, _, rfl, _, rfl, _, rfl, _, _, rfl, rfl, d, a, c, _, xs, ys, dep - 1, 2, evs h0, by omega, by decide, u4, hx.keep (s2.trans s4), hne, hy.keep (s2.trans s4), fun p5 l5 z5 H5 n5 o5 k5 u5 d5 => ?_⟩
      have s5 := s4.trans k5
      refine ⟨_, rfl, _, rfl, _, rfl, _, rfl, _, _, rfl, rfl, d, a, c, _, xs, ys, dep - 1, 2, evs h0, by omega, by decide, u5, hx.keep (s2.trans s5), hne, hy.keep (s2.trans s5), fun p6 l6 z6 H6 n6 o6 k6 u6 d6 => ?_⟩
      have s6 := s5.trans k6
      -- the tuple
      refine ⟨_, rfl, .inl ⟨rfl, _, SqL.of (s6.same o _ nodo o1)⟩, _, rfl, _, rfl, _, rfl, few (by show 4 ≤ 4; decide), fun p hp => ?_⟩
      have hpd : d ≠ p := fun e => by rw [← e, u6] at hp; cases hp
      have hp0 : H1 p = none := s6.free (fun e => hpd e.symm) hp
      have k7 : Kp (· = d) H6 (upd H6 p (.tup [.str "if", .str x, .ref p5, .ref p6])) := Kp.new hp
      have dv : Dp K (nw H1 (upd H6 p (.tup [.str "if", .str x, .ref p5, .ref p6]))) (.ref p) (S.iff x l5 l6).data := by
        rw [data_iff]
        exact dp_tuple hp0 (.cons (.str "if") (.cons (.str x) (.cons (dp_made s4 (k6.trans k7) hDt d5) (.cons (dp_made s5 k7 hDt d6) .nil))))
      obtain ⟨i1, i2, i3⟩ := put (y7 := some (.int 0)) (y8 := some (.str x)) (y9 := some (.ref p5)) (y10 := some (.ref p6)) (y11 := y11) (st := S.iff x l5 l6) (by
        obtain ⟨e, rfl⟩ : ∃ e, dep = e + 1 := ⟨dep - 1, by omega⟩
        exact ⟨hx.ok x hm, n5, n6, o5, o6⟩) (s6.trans k7) (by rw [upd_ne hpd]; exact u6) dv
      have e7 : V.int r3 = V.int 0 := of_decide_eq_true e0
      rw [V.int.inj e7]
      exact ⟨o, vs, _, rfl, rfl, i1, i2, i3⟩
    all_goals
      refine ⟨_, rfl, rfl, _, rfl, ite2 (fun e2 => ⟨_, rfl, _, _, rfl, rfl, _, rfl, ite2 (fun e3 => ?_) (fun e3 => ?_)⟩) (fun e2 => iteF ?_)⟩
      · skip
        have h0 : 0 < dep := by
          have := of_decide_eq_true e3
          omega
        refine ⟨_, rfl, d, z3, 3, rfl, u3, by decide, by decide, fun z4 r4 r40 r41 => ?_⟩
        have s4 := s3.trans (Kp.put (D := (· = d)) (H := H3) (p := d) (o := .lst [.int z4]) rfl rfl)
        have u4 : (upd H3 d (.lst [.int z4])) d = some (.lst [.int z4]) := upd_same
        generalize upd H3 d (.lst [.int z4]) = H4 at s4 u4
        have er : (fun i j => V.int (i + j)) 1 r4 = V.int (((1 + r4).toNat : Nat) : Int) := by
          show V.int (1 + r4) = _
          congr 1
          omega
        refine ⟨_, _, rfl, rfl, ?_⟩
        rw [er]
        refine ⟨_, rfl, .inl ⟨rfl, _, SqL.of (s4.same o _ nodo o1)⟩, _, rfl, _, rfl, _, rfl, _, rfl, _, rfl, _, _, rfl, rfl, d, a, c, _, xs, ys, dep - 1, 2, evs h0, by omega, by decide, u4, hx.keep (s2.trans s4), hne, hy.keep (s2.trans s4), fun p5 l5 z5 H5 n5 o5 k5 u5 d5 => ?_⟩
        have s5 := s4.trans k5
        refine ⟨few (by show 3 ≤ 4; decide), fun p hp => ?_⟩
        have hpd : d ≠ p := fun e => by rw [← e, u5] at hp; cases hp
        have hp0 : H1 p = none := s5.free (fun e => hpd e.symm) hp
        have k7 : Kp (· = d) H5 (upd H5 p (.tup [.str "repeat", .int (((1 + r4).toNat : Nat) : Int), .ref p5])) := Kp.new hp
        have dv : Dp K (nw H1 (upd H5 p (.tup [.str "repeat", .int (((1 + r4).toNat : Nat) : Int), .ref p5]))) (.ref p) (S.rep (1 + r4).toNat l5).data := by
          rw [data_rep]
          exact dp_tuple hp0 (.cons (.str "repeat") (.cons (.int _) (.cons (dp_made s4 k7 hDt d5) .nil)))
        obtain ⟨i1, i2, i3⟩ := put (y7 := some (.int r3)) (y8 := y8) (y9 := y9) (y10 := y10) (y11 := some (.int (((1 + r4).toNat : Nat) : Int))) (st := S.rep (1 + r4).toNat l5) (by
          obtain ⟨e, rfl⟩ : ∃ e, dep = e + 1 := ⟨dep - 1, by omega⟩
          exact ⟨by omega, by omega, n5, o5⟩) (s5.trans k7) (by rw [upd_ne hpd]; exact u5) dv
        exact ⟨o, vs, _, rfl, rfl, i1, i2, i3⟩
      all_goals
        refine ⟨_, rfl, rfl, _, rfl, ite2 (fun e4 => ⟨_, rfl, c, _, rfl, .inl w3.at_, _, _, rfl, rfl, _, rfl, ite2 (fun e5 => ?_) (fun e5 => ?_)⟩) (fun e4 => iteF ?_)⟩
        · skip
          have h0 : (((ys.map V.str).length : Nat) : Int) > 0 := of_decide_eq_true e5
          rw [List.length_map] at h0
          refine ⟨_, rfl, ty, _, rfl, _, rfl, _, rfl, c, _, rfl, .inl w3.at_, d, z3, ((ys.map V.str).length : Nat), rfl, u3, by rw [List.length_map]; omega, by rw [List.length_map]; omega, fun z4 r4 r40 r41 => ?_⟩
          rw [List.length_map] at r41
          have s4 := s3.trans (Kp.put (D := (· = d)) (H := H3) (p := d) (o := .lst [.int z4]) rfl rfl)
          have u4 : (upd H3 d (.lst [.int z4])) d = some (.lst [.int z4]) := upd_same
          generalize upd H3 d (.lst [.int z4]) = H4 at s4 u4
          obtain ⟨x, hm, hat⟩ := pick (xs := ys) r40 r41
          refine ⟨c, ys.map V.str, r4, _, rfl, rfl, (hy.keep (s2.trans s4)).at_, hat, few (by show 2 ≤ 4; decide), fun p hp => ?_⟩
          have hpd : d ≠ p := fun e => by rw [← e, u4] at hp; cases hp
          have hp0 : H1 p = none := s4.free (fun e => hpd e.symm) hp
          have dv : Dp K (nw H1 (upd H4 p (.tup [.str "call", .str x]))) (.ref p) (S.pl (.call x)).data := by
            rw [data_pl]
            exact dp_tuple hp0 (.cons (.str "call") (.cons (.str x) .nil))
          obtain ⟨i1, i2, i3⟩ := put (y7 := some (.int r3)) (y8 := y8) (y9 := y9) (y10 := y10) (y11 := y11) (st := S.pl (.call x)) (Ok.pl' (hy.ok x hm)) (s4.trans (Kp.new hp)) (by rw [upd_ne hpd]; exact u4) dv
          exact ⟨o, vs, _, rfl, rfl, i1, i2, i3⟩
        all_goals
          refine ⟨_, rfl, ty, _, rfl, _, rfl, d, a, z3, xs, rfl, u3, x3, hne, fun p pl z4 H4 okp k4 u4 d4 => ?_⟩
          have dv : Dp K (nw H1 H4) (.ref p) (S.pl pl).data := by
            rw [data_pl]
            exact dp_made (D := (· = d)) s3 Kp.refl hDt d4
          obtain ⟨i1, i2, i3⟩ := put (y7 := some (.int r3)) (y8 := y8) (y9 := y9) (y10 := y10) (y11 := y11) (st := S.pl pl) (Ok.pl' okp) (s3.trans k4) u4 dv
          exact ⟨o, vs, _, rfl, rfl, i1, i2, i3⟩
  · rw [ePv] at hp
    obtain ⟨vs, l, z2, y6, y7, y8, y9, y10, y11, ll, okl, rfl, s2, bl, u2⟩ := hp
    exact ⟨_, rfl, q o l z2 H1 (by omega) okl s2 u2 bl.done⟩
end
end K53

/-! KD -/
/-! the law's lines: _law_lines, _law_written -/
namespace K53
open PySem PySem.Spec PyProof.Rows L2
/-- for x in xs: ys.append(x) -/
theorem app_loop {K : PySem.W.Frag} {r o : Addr} {xs ys : List V} {i j : Nat} {σ : L2.St} {H1 : Hp} {D : Ends} {y0 : Option V} (hr : H1 r = some (.lst xs)) (ho : H1 o = some (.lst ys)) (hne : r ≠ o) (hij : i ≠ j) (hj : σ[j]? = some (some (.ref o))) (hi : σ[i]? = some y0) (hz : ys.length + xs.length ≤ sizeLine)
    (done : ∀ y H2, (∀ b, b ≠ o → H2 b = H1 b) → H2 o = some (.lst (ys ++ xs)) → D.nx (σ.set i y) H2) :
    ∃ W : Nat → Nat → L2.St → Hp → Prop, (∃ m, W 0 m σ H1) ∧ ∀ k m σ H, W k m σ H →
      ((Itl K r).stop k H ∧ D.nx σ H) ∨ ((Itl K r).go k H ∧ ∃ N : L2.St → Hp → Prop, (∀ σ' H', N σ' H' → ∃ m', m' < m ∧ W (k + 1) m' σ' H') ∧
        ∀ x H', (Itl K r).yld k H x H' → gName i x σ H' fun σ2 H2 => tDrop (tBM K "list" rAppend (tVar j) (tCons (tVar i) tNil)) { D with nx := N, ct := N, bk := D.nx } σ2 H2) := by
  have il : i < σ.length := (List.getElem?_eq_some_iff.mp hi).1
  refine for_list (K := K) (a := r) (xs := xs) (fun k τ H => (∃ y, τ = σ.set i y) ∧ (∀ b, b ≠ o → H b = H1 b) ∧ H o = some (.lst (ys ++ xs.take k))) ⟨⟨y0, ?_⟩, fun _ _ => rfl, by rw [List.take_zero, List.append_nil]; exact ho⟩ (fun k τ H _ hp => SqL.of (by rw [hp.2.1 r hne]; exact hr)) (fun k x τ H hx hp => ?_) (fun τ H hp => ?_)
  · obtain ⟨_, e⟩ := List.getElem?_eq_some_iff.mp hi
    rw [← e, List.set_getElem_self]
  · obtain ⟨⟨y, rfl⟩, k1, k2⟩ := hp
    have kx : k < xs.length := (List.getElem?_eq_some_iff.mp hx).1
    have e1 : (σ.set i y).set i (some x) = σ.set i (some x) := by rw [List.set_set]
    show (tDrop (tBM K "list" rAppend (tVar j) (tCons (tVar i) tNil))) _ ((σ.set i y).set i (some x)) H
    rw [e1]
    refine ⟨.ref o, by rw [List.getElem?_set_ne hij]; exact hj, .inl ⟨rfl, _, SqL.of k2⟩, x, by rw [List.getElem?_set_self il], o, _, x, rfl, rfl, k2, ?_, ⟨_, rfl⟩, fun b hb => ?_, ?_⟩
    · rw [List.length_append, List.length_take]
      omega
    · rw [upd_ne hb]
      exact k1 b hb
    · rw [upd_same, List.take_add_one, hx, List.append_assoc]
      rfl
  · obtain ⟨⟨y, rfl⟩, k1, k2⟩ := hp
    rw [List.take_length] at k2
    exact done y H k1 k2
/-! ### what a statement is, by its tuple -/
structure PlainW (k : Str) : Prop where
  n1 : k ≠ "if"
  n2 : k ≠ "repeat"
  n3 : k ≠ "set"
  n4 : k ≠ "wait"
  n5 : k ≠ "release"
  len : k.length ≤ 4
  kw : k = "move" ∨ k = "take" ∨ k = "call"
theorem plainW {k : Str} (h : k = "move" ∨ k = "take" ∨ k = "call") : PlainW k := by
  rcases h with rfl | rfl | rfl <;> exact ⟨by decide +kernel, by decide +kernel, by decide +kernel, by decide +kernel, by decide +kernel, by decide +kernel, by simp⟩
inductive StAt (K : PySem.W.Frag) (H : Hp) (d : Nat) (v : V) (st : S) : Prop where
  | two (k n : Str) (p : Addr) (pw : PlainW k) (e : v = .ref p) (t : SqT K H p [.str k, .str n]) (l : st.lines = [k ++ " " ++ n]) (o : st.toks = [k, n]) (nk : NameOk n)
  | sw (k n : Str) (b : Bool) (p : Addr) (hk : k = "set" ∨ k = "wait") (e : v = .ref p) (t : SqT K H p [.str k, .str n, .bl b]) (l : st.lines = [k ++ " " ++ n ++ " " ++ onoff b]) (o : st.toks = [k, n, onoff b]) (nk : NameOk n)
  | rel (p : Addr) (e : v = .ref p) (t : SqT K H p [.str "release"]) (l : st.lines = [("release" : Str)]) (o : st.toks = [("release" : Str)])
  | iff (n : Str) (a b : List S) (p : Addr) (u w : V) (c : Nat) (hd : d = c + 1) (e : v = .ref p) (t : SqT K H p [.str "if", .str n, u, w]) (du : Dp K H u (.list (dataL a))) (dw : Dp K H w (.list (dataL b))) (es : st = .iff n a b) (nk : NameOk n) (la : a.length ≤ 2) (lb : b.length ≤ 2) (oa : OkL c a) (ob : OkL c b)
  | rep (k : Nat) (a : List S) (p : Addr) (u : V) (c : Nat) (hd : d = c + 1) (e : v = .ref p) (t : SqT K H p [.str "repeat", .int (k : Int), u]) (du : Dp K H u (.list (dataL a))) (es : st = .rep k a) (k1 : 1 ≤ k) (k3 : k ≤ 3) (la : a.length ≤ 2) (oa : OkL c a)
theorem stAt {K : PySem.W.Frag} {H : Hp} {d : Nat} {v : V} {st : S} (o : Ok d st) (h : Dp K H v st.data) : StAt K H d v st := by
  cases st with
  | pl p =>
    have ok := ok_pl o
    rw [data_pl] at h
    have pair : ∀ (k n : Str), (k = "move" ∨ k = "take" ∨ k = "call") → NameOk n → p.data = .tuple [.str k, .str n] → p.line = k ++ " " ++ n → p.toks = [k, n] → StAt K H d v (.pl p) := fun k n hk nk e el eo => by
      rw [e] at h
      obtain ⟨a, xs, rfl, hs, ha⟩ := dp_tup h
      obtain ⟨v1, r1, rfl, h1, ha⟩ := all_cons ha
      obtain ⟨v2, r2, rfl, h2, ha⟩ := all_cons ha
      rw [all_nil ha, dp_str h1, dp_str h2] at hs
      exact .two k n a (plainW hk) rfl hs (by rw [lines_pl, el]) (by rw [toks_pl, eo]) nk
    have trip : ∀ (k n : Str) (b : Bool), (k = "set" ∨ k = "wait") → NameOk n → p.data = .tuple [.str k, .str n, .bool b] → p.line = k ++ " " ++ n ++ " " ++ onoff b → p.toks = [k, n, onoff b] → StAt K H d v (.pl p) := fun k n b hk nk e el eo => by
      rw [e] at h
      obtain ⟨a, xs, rfl, hs, ha⟩ := dp_tup h
      obtain ⟨v1, r1, rfl, h1, ha⟩ := all_cons ha
      obtain ⟨v2, r2, rfl, h2, ha⟩ := all_cons ha
      obtain ⟨v3, r3, rfl, h3, ha⟩ := all_cons ha
      rw [all_nil ha, dp_str h1, dp_str h2, dp_bool h3] at hs
      exact .sw k n b a hk rfl hs (by rw [lines_pl, el]) (by rw [toks_pl, eo]) nk
    cases p with
    | move n => exact pair _ n (.inl rfl) ok rfl rfl rfl
    | take n => exact pair _ n (.inr (.inl rfl)) ok rfl rfl rfl
    | call n => exact pair _ n (.inr (.inr rfl)) ok rfl rfl rfl
    | set n b => exact trip _ n b (.inl rfl) ok rfl rfl rfl
    | wait n b => exact trip _ n b (.inr rfl) ok rfl rfl rfl
    | release =>
      obtain ⟨a, xs, rfl, hs, ha⟩ := dp_tup h
      obtain ⟨v1, r1, rfl, h1, ha⟩ := all_cons ha
      rw [all_nil ha, dp_str h1] at hs
      exact .rel a rfl hs (by rw [lines_pl]; rfl) (by rw [toks_pl]; rfl)
  | iff n a b =>
    obtain ⟨c, rfl⟩ : ∃ c, d = c + 1 := by
      cases d with
      | zero => exact o.elim
      | succ c => exact ⟨c, rfl⟩
    obtain ⟨nk, la, lb, oa, ob⟩ := o
    rw [data_iff] at h
    obtain ⟨p, xs, rfl, hs, ha⟩ := dp_tup h
    obtain ⟨v1, r1, rfl, h1, ha⟩ := all_cons ha
    obtain ⟨v2, r2, rfl, h2, ha⟩ := all_cons ha
    obtain ⟨v3, r3, rfl, h3, ha⟩ := all_cons ha
    obtain ⟨v4, r4, rfl, h4, ha⟩ := all_cons ha
    rw [all_nil ha, dp_str h1, dp_str h2] at hs
    exact .iff n a b p v3 v4 c rfl rfl hs h3 h4 rfl nk la lb oa ob
  | rep k a =>
    obtain ⟨c, rfl⟩ : ∃ c, d = c + 1 := by
      cases d with
      | zero => exact o.elim
      | succ c => exact ⟨c, rfl⟩
    obtain ⟨k1, k3, la, oa⟩ := o
    rw [data_rep] at h
    obtain ⟨p, xs, rfl, hs, ha⟩ := dp_tup h
    obtain ⟨v1, r1, rfl, h1, ha⟩ := all_cons ha
    obtain ⟨v2, r2, rfl, h2, ha⟩ := all_cons ha
    obtain ⟨v3, r3, rfl, h3, ha⟩ := all_cons ha
    rw [all_nil ha, dp_str h1, dp_int h2] at hs
    exact .rep k a p v3 c rfl rfl hs h3 rfl k1 k3 la oa
/-! ### lines behind a prefix -/
def outp (pf : Str) (l : List Str) : List V := l.map fun x => V.str (pf ++ x)
theorem outp_app (pf : Str) (a b : List Str) : outp pf (a ++ b) = outp pf a ++ outp pf b := List.map_append
theorem outp_cons (pf x : Str) (b : List Str) : outp pf (x :: b) = .str (pf ++ x) :: outp pf b := rfl
theorem outp_len (pf : Str) (a : List Str) : (outp pf a).length = a.length := List.length_map _
theorem outp_in (pf : Str) (a : List Str) : outp (pf ++ "  ") a = outp pf (ind a) := by
  unfold outp ind
  rw [List.map_map]
  exact List.map_congr_left fun x _ => by
    show V.str _ = V.str _
    rw [app_assoc]
theorem take_st {l : List S} {i : Nat} {s : S} (h : l[i]? = some s) : linesL (l.take (i + 1)) = linesL (l.take i) ++ s.lines := by
  rw [List.take_add_one, h, linesL_app]
  show _ ++ linesL [s] = _
  rw [linesL_one]
theorem data_at {l : List S} {i : Nat} {d : PyData} (h : (dataL l)[i]? = some d) : ∃ s, l[i]? = some s ∧ d = s.data ∧ s ∈ l := by
  rw [dataL_map, List.getElem?_map] at h
  obtain ⟨s, e1, e2⟩ := Option.map_eq_some_iff.mp h
  exact ⟨s, e1, e2.symm, List.mem_of_getElem? e1⟩
/-- the lines of a list of at most six statements -/
theorem few_lines {d : Nat} {l : List S} (hd : d ≤ 2) (h : OkL d l) (hl : l.length ≤ 6) : (linesL l).length ≤ 186 ∧ ∀ x ∈ linesL l, x.length ≤ 34 := by
  obtain ⟨h1, h2⟩ := lines_L h
  have hm : most d ≤ 31 := by
    rcases (show d = 0 ∨ d = 1 ∨ d = 2 by omega) with rfl | rfl | rfl <;> decide
  have := Nat.mul_le_mul hl hm
  exact ⟨by omega, fun x hx => by have := (h2 x hx).2; omega⟩
theorem okl_take {d : Nat} {l : List S} (n : Nat) (h : OkL d l) : OkL d (l.take n) := fun s m => h s (List.mem_of_mem_take m)
end K53

/-! KE1 -/
/-! _law_lines -/
namespace K53
open PySem PySem.Spec PyProof.Rows L2
theorem itS {a b : Str} {A B : Prop} (h : a = b) (k : A) : if decide (V.str a = V.str b) = true then A else B := by
  rw [if_pos (decide_eq_true (congrArg V.str h))]
  exact k
theorem itN {a b : Str} {A B : Prop} (h : a ≠ b) (k : B) : if decide (V.str a = V.str b) = true then A else B := by
  rw [if_neg (by rw [decide_eq_false (fun e => h (V.str.inj e))]; exact Bool.false_ne_true)]
  exact k
theorem atN {xs : List V} (j : Nat) {v : V} (h : xs[j]? = some v) : atI xs (j : Int) = some v := atI_nat h
theorem ln_if : ("if " : Str).length = 3 := by decide +kernel
theorem ln_op : (" {" : Str).length = 2 := by decide +kernel
theorem ln_sp2 : ("  " : Str).length = 2 := by decide +kernel
theorem ln_sp : (" " : Str).length = 1 := by decide +kernel
theorem ln_cl : ("}" : Str).length = 1 := by decide +kernel
theorem ln_else : ("} else {" : Str).length = 8 := by decide +kernel
theorem ln_rep : ("repeat " : Str).length = 7 := by decide +kernel
theorem ln_rel : ("release" : Str).length = 7 := by decide +kernel
theorem ln_rt : ("routine " : Str).length = 8 := by decide +kernel
section
variable {P : Program} {w : World} {K : PySem.W.Frag} {mg : Str → Option Value} {base : Heap}
def spLines (K : PySem.W.Frag) (n : Nat) : Sp := fun vs H Q _ => ∃ (a : Addr) (pf : Str) (dep : Nat) (l : List S), vs = [.ref a, .str pf] ∧ dep < n ∧ dep ≤ 2 ∧ pf.length + 2 * dep ≤ 12 ∧ Dp K H (.ref a) (.list (dataL l)) ∧ OkL dep l ∧ l.length ≤ 6 ∧
  ∀ (r : Addr) (H' : Hp), Same H H' → H r = none → H' r = some (.lst (outp pf (linesL l))) → Q (.ref r) H'
abbrev psLines : List Str := ["_law_statements_here", "_law_indent"]
theorem ok_lines (B : Bi mg) {f : Addr} {fd : FuncData} (A : At K mg d_l_lines "_law_lines" f fd) {n : Nat} (cr : FnOk P w K mg base CX0 n f fd psLines (spLines K n)) : FnOk P w K mg base CX0 (n + 1) f fd psLines (spLines K (n + 1)) := by
  refine A.F.ok sc_l_lines (fun vs H Q E h => ?_) (fun cdv A' outer s H vs Q E hr h => ?_)
  · obtain ⟨a, pf, dep, l, rfl, _⟩ := h
    rfl
  obtain ⟨a, pf, dep, l, rfl, hdep, hd2, hpf, hl, okl, l6, q⟩ := h
  have b3 : Binds K fd psLines [] := A.F.bindsN fun _ _ _ _ _ _ us hl => match us, hl with | [_, _], _ => rfl
  have nd := sc_l_lines.nd
  refine ⟨_, PSs.nox (pss_cons (ps_set (i := 2) nd rfl (.inl rfl) (pe_lst pa_nil))
    (pss_cons (ps_for PassesOwn.never rfl (pi_list (pv 0)) (pg_name (i := 3) nd rfl (.inl rfl))
      (pss_one (ps_if (pt_cmpR op_eq (pe_ix ix_tup (pv 3) pe_int (fun _ _ => rfl)) pe_str (nomark _))
        (pss_cons (ps_expr (pe_bm PySem.F.plainAttrs_list PySem.F.slot_list_append PySem.F.type_list_append mt_append (pv 2) (pa_cons (pe_op op_add_str (pe_op op_add_str (pe_op op_add_str (pv 1) pe_str) (pe_ix ix_tup (pv 3) pe_int (fun _ _ => rfl))) pe_str) pa_nil)))
        (pss_cons (ps_for PassesOwn.never rfl (pi_list (pe_call cr hr (by rfl) A.m A.F.kp b3 .nil pass0 (pa_cons (pe_ix ix_tup (pv 3) pe_int (fun _ _ => rfl)) (pa_cons (pe_op op_add_str (pv 1) pe_str) pa_nil)))) (pg_name (i := 4) nd rfl (.inl rfl))
          (pss_one (ps_expr (pe_bm PySem.F.plainAttrs_list PySem.F.slot_list_append PySem.F.type_list_append mt_append (pv 2) (pa_cons (pv 4) pa_nil)))))
        (pss_cons (ps_if (pt_cmpR op_gt (pe_callB call_len_seq (by rfl) B.len PySem.boot_len (pa_cons (pe_ix ix_tup (pv 3) pe_int (fun _ _ => rfl)) pa_nil)) pe_int (nomark _))
          (pss_cons (ps_expr (pe_bm PySem.F.plainAttrs_list PySem.F.slot_list_append PySem.F.type_list_append mt_append (pv 2) (pa_cons (pe_op op_add_str (pv 1) pe_str) pa_nil)))
          (pss_one (ps_for PassesOwn.never rfl (pi_list (pe_call cr hr (by rfl) A.m A.F.kp b3 .nil pass0 (pa_cons (pe_ix ix_tup (pv 3) pe_int (fun _ _ => rfl)) (pa_cons (pe_op op_add_str (pv 1) pe_str) pa_nil)))) (pg_name (i := 4) nd rfl (.inl rfl))
            (pss_one (ps_expr (pe_bm PySem.F.plainAttrs_list PySem.F.slot_list_append PySem.F.type_list_append mt_append (pv 2) (pa_cons (pv 4) pa_nil))))))) pss_nil)
        (pss_one (ps_expr (pe_bm PySem.F.plainAttrs_list PySem.F.slot_list_append PySem.F.type_list_append mt_append (pv 2) (pa_cons (pe_op op_add_str (pv 1) pe_str) pa_nil)))))))
        (pss_one (ps_if (pt_cmpR op_eq (pe_ix ix_tup (pv 3) pe_int (fun _ _ => rfl)) pe_str (nomark _))
          (pss_cons (ps_expr (pe_bm PySem.F.plainAttrs_list PySem.F.slot_list_append PySem.F.type_list_append mt_append (pv 2) (pa_cons (pe_op op_add_str (pe_op op_add_str (pe_op op_add_str (pv 1) pe_str) (pe_callTy call_str_int (by rfl) B.str bt_str (pa_cons (pe_ix ix_tup (pv 3) pe_int (fun _ _ => rfl)) pa_nil))) pe_str) pa_nil)))
          (pss_cons (ps_for PassesOwn.never rfl (pi_list (pe_call cr hr (by rfl) A.m A.F.kp b3 .nil pass0 (pa_cons (pe_ix ix_tup (pv 3) pe_int (fun _ _ => rfl)) (pa_cons (pe_op op_add_str (pv 1) pe_str) pa_nil)))) (pg_name (i := 4) nd rfl (.inl rfl))
            (pss_one (ps_expr (pe_bm PySem.F.plainAttrs_list PySem.F.slot_list_append PySem.F.type_list_append mt_append (pv 2) (pa_cons (pv 4) pa_nil)))))
          (pss_one (ps_expr (pe_bm PySem.F.plainAttrs_list PySem.F.slot_list_append PySem.F.type_list_append mt_append (pv 2) (pa_cons (pe_op op_add_str (pv 1) pe_str) pa_nil))))))
          (pss_one (ps_if (PW.pt (pw_or (pt_cmpR op_eq (pe_ix ix_tup (pv 3) pe_int (fun _ _ => rfl)) pe_str (nomark _)) (pw_or1 (pt_cmpR op_eq (pe_ix ix_tup (pv 3) pe_int (fun _ _ => rfl)) pe_str (nomark _)))))
            (pss_cons (ps_set (i := 5) nd rfl (.inl rfl) pe_str)
            (pss_cons (ps_if (pt_val (pe_ix ix_tup (pv 3) pe_int (fun _ _ => rfl))) (pss_one (ps_set (i := 5) nd rfl (.inl rfl) pe_str)) pss_nil)
            (pss_one (ps_expr (pe_bm PySem.F.plainAttrs_list PySem.F.slot_list_append PySem.F.type_list_append mt_append (pv 2) (pa_cons (pe_op op_add_str (pe_op op_add_str (pe_op op_add_str (pe_op op_add_str (pv 1) (pe_ix ix_tup (pv 3) pe_int (fun _ _ => rfl))) pe_str) (pe_ix ix_tup (pv 3) pe_int (fun _ _ => rfl))) pe_str |> fun z => pe_op op_add_str z (pv 5)) pa_nil))))))
            (pss_one (ps_if (pt_cmpR op_eq (pe_ix ix_tup (pv 3) pe_int (fun _ _ => rfl)) pe_str (nomark _))
              (pss_one (ps_expr (pe_bm PySem.F.plainAttrs_list PySem.F.slot_list_append PySem.F.type_list_append mt_append (pv 2) (pa_cons (pe_op op_add_str (pv 1) pe_str) pa_nil))))
              (pss_one (ps_expr (pe_bm PySem.F.plainAttrs_list PySem.F.slot_list_append PySem.F.type_list_append mt_append (pv 2) (pa_cons (pe_op op_add_str (pe_op op_add_str (pe_op op_add_str (pv 1) (pe_ix ix_tup (pv 3) pe_int (fun _ _ => rfl))) pe_str) (pe_ix ix_tup (pv 3) pe_int (fun _ _ => rfl))) pa_nil)))))))))))))
    (pss_one (ps_ret (pv 2))))), ?_⟩
  obtain ⟨a', vs, ea, hS, hda⟩ := dp_list hl
  cases ea
  have hlen : vs.length = l.length := by rw [all_len hda, dataL_map, List.length_map]
  obtain ⟨fl, fx⟩ := few_lines hd2 okl l6
  refine ⟨Nat.zero_le _, fun o ho => ?_⟩
  obtain ⟨Pv, ePv⟩ : ∃ Pv : Nat → L2.St → Hp → Prop, Pv = fun i σ H1 => ∃ (y3 y4 y5 : Option V), σ = [some (.ref a), some (.str pf), some (.ref o), y3, y4, y5] ∧ Same H H1 ∧ H1 o = some (.lst (outp pf (linesL (l.take i)))) := ⟨_, rfl⟩
  refine ⟨_, rfl, a, rfl, ⟨_, (same_new ho).seq hS⟩, for_list (K := K) (a := a) (xs := vs) Pv (by rw [ePv]; exact ⟨_, _, _, rfl, same_new ho, upd_same⟩) (fun i σ H1 _ hp => by
    rw [ePv] at hp
    obtain ⟨_, _, _, _, s1, _⟩ := hp
    exact s1.seq hS) (fun i x σ H1 hx hp => ?_) (fun σ H1 hp => ?_)⟩
  · rw [ePv] at hp
    obtain ⟨y3, y4, y5, rfl, s1, o1⟩ := hp
    obtain ⟨dat, hdat, hdx⟩ := all_get hda hx
    obtain ⟨st, hst, rfl, hmem⟩ := data_at hdat
    have os := okl st hmem
    have sa := stAt os hdx
    have tk := take_st hst
    -- how many lines there are
    have tl : (linesL (l.take i)).length + st.lines.length ≤ 186 := by
      have h1 : linesL l = linesL (l.take (i + 1)) ++ linesL (l.drop (i + 1)) := by rw [← linesL_app, List.take_append_drop]
      have h2 := congrArg List.length h1
      rw [tk, List.length_append, List.length_append] at h2
      omega
    have xl : ∀ y ∈ st.lines, y.length ≤ 34 := fun y hy => fx y (by
      have h1 : linesL l = linesL (l.take (i + 1)) ++ linesL (l.drop (i + 1)) := by rw [← linesL_app, List.take_append_drop]
      rw [h1, tk]
      exact List.mem_append_left _ (List.mem_append_right _ hy))
    have ty : ∀ {H2 : Hp} {zs : List V}, H2 o = some (.lst zs) → tyV K "list" (.ref o) H2 := fun e => .inl ⟨rfl, _, SqL.of e⟩
    -- the turn's end
    have fin : ∀ {H2 : Hp} {y3 y4 y5 : Option V}, Same H H2 → H2 o = some (.lst (outp pf (linesL (l.take i) ++ st.lines))) → Pv (i + 1) [some (.ref a), some (.str pf), some (.ref o), y3, y4, y5] H2 := fun {H2 y3 y4 y5} s2 o2 => by
      rw [ePv]
      exact ⟨_, _, _, rfl, s2, by rw [tk]; exact o2⟩
    have keep : ∀ {H2 : Hp} {zs : List V}, Same H H2 → Same H (upd H2 o (.lst zs)) := fun s2 b u e => by
      rw [upd_ne (ne_of_none e ho)]
      exact s2 b u e
    have lo : (outp pf (linesL (l.take i))).length = (linesL (l.take i)).length := outp_len _ _
    cases sa with
    | two k n p pw e t el eo nk =>
      cases e
      have t := Same.sqt s1 t
      have e0 : ∀ {v w : V}, atI [V.str k, V.str n] 0 = some (.str k) ∧ atI [V.str k, V.str n] 1 = some (.str n) := fun {_ _} => ⟨atI_nat (j := 0) rfl, atI_nat (j := 1) rfl⟩
      have nl := nk.len
      have kl := pw.len
      rw [el] at tl fin
      refine ⟨_, rfl, p, _, 0, _, rfl, rfl, t, atI_nat (j := 0) rfl, rfl, _, rfl, itN pw.n1 ?_⟩
      refine ⟨_, rfl, p, _, 0, _, rfl, rfl, t, atI_nat (j := 0) rfl, rfl, _, rfl, itN pw.n2 ?_⟩
      refine ⟨_, rfl, p, _, 0, _, rfl, rfl, t, atI_nat (j := 0) rfl, rfl, _, rfl, itN pw.n3 ?_⟩
      refine ⟨_, rfl, p, _, 0, _, rfl, rfl, t, atI_nat (j := 0) rfl, rfl, _, rfl, itN pw.n4 ?_⟩
      refine ⟨_, rfl, p, _, 0, _, rfl, rfl, t, atI_nat (j := 0) rfl, rfl, _, rfl, itN pw.n5 ?_⟩
      refine ⟨_, rfl, ty o1, _, rfl, _, rfl, p, _, 0, _, rfl, rfl, t, atI_nat (j := 0) rfl, _, _, rfl, rfl, sizes (by omega), ?_⟩
      refine ⟨_, _, rfl, rfl, sizes (by rw [len_app, ln_sp]; omega), _, rfl, p, _, 1, _, rfl, rfl, t, atI_nat (j := 1) rfl, _, _, rfl, rfl, sizes (by rw [len_app, len_app, ln_sp]; omega), ?_⟩
      refine ⟨o, _, _, rfl, rfl, o1, sizes1 (by rw [lo]; omega), fin (keep s1) ?_⟩
      rw [upd_same, outp_app, app_assoc, app_assoc, ← app_assoc k]
      rfl
    | sw k n b p hk e t el eo nk =>
      cases e
      have t := Same.sqt s1 t
      have nl := nk.len
      have kl : k.length ≤ 4 := by rcases hk with rfl | rfl <;> decide +kernel
      have bl : (onoff b).length ≤ 3 := by cases b <;> decide +kernel
      have c1 : k ≠ "if" := by rcases hk with rfl | rfl <;> decide +kernel
      have c2 : k ≠ "repeat" := by rcases hk with rfl | rfl <;> decide +kernel
      rw [el] at tl fin
      refine ⟨_, rfl, p, _, 0, _, rfl, rfl, t, atI_nat (j := 0) rfl, rfl, _, rfl, itN c1 ?_⟩
      refine ⟨_, rfl, p, _, 0, _, rfl, rfl, t, atI_nat (j := 0) rfl, rfl, _, rfl, itN c2 ?_⟩
      have same : pf ++ k ++ " " ++ n ++ " " ++ onoff b = pf ++ (k ++ " " ++ n ++ " " ++ onoff b) := sx (by simp only [cs_app, List.append_assoc])
      have k12 : k = "set" ∨ (k ≠ "set" ∧ k = "wait") := by
        rcases hk with rfl | rfl
        · exact .inl rfl
        · exact .inr ⟨by decide +kernel, rfl⟩
      rcases k12 with hk | ⟨hk1, hk⟩
      · refine ⟨_, rfl, p, _, 0, _, rfl, rfl, t, atI_nat (j := 0) rfl, rfl, _, rfl, itS hk (iteT ?_)⟩
        cases b with
        | true =>
          refine ⟨_, rfl, p, _, 2, _, rfl, rfl, t, atI_nat (j := 2) rfl, true, rfl, iteT ?_⟩
          refine ⟨_, rfl, ty o1, _, rfl, _, rfl, p, _, 0, _, rfl, rfl, t, atI_nat (j := 0) rfl, _, _, rfl, rfl, sizes (by omega), ?_⟩
          refine ⟨_, _, rfl, rfl, sizes (by rw [len_app, ln_sp]; omega), _, rfl, p, _, 1, _, rfl, rfl, t, atI_nat (j := 1) rfl, _, _, rfl, rfl, sizes (by rw [len_app, len_app, ln_sp]; omega), ?_⟩
          refine ⟨_, _, rfl, rfl, sizes (by rw [len_app, len_app, len_app, ln_sp]; omega), _, rfl, _, _, rfl, rfl, sizes (by have e := bl; rw [len_app, len_app, len_app, len_app, ln_sp]; exact Nat.le_trans (Nat.add_le_add_left bl _) (by omega)), ?_⟩
          refine ⟨o, _, _, rfl, rfl, o1, sizes1 (by rw [lo]; omega), fin (keep s1) ?_⟩
          rw [upd_same, outp_app, outp_cons, ← same]
          rfl
        | false =>
          refine ⟨_, rfl, p, _, 2, _, rfl, rfl, t, atI_nat (j := 2) rfl, false, rfl, iteF ?_⟩
          refine ⟨_, rfl, ty o1, _, rfl, _, rfl, p, _, 0, _, rfl, rfl, t, atI_nat (j := 0) rfl, _, _, rfl, rfl, sizes (by omega), ?_⟩
          refine ⟨_, _, rfl, rfl, sizes (by rw [len_app, ln_sp]; omega), _, rfl, p, _, 1, _, rfl, rfl, t, atI_nat (j := 1) rfl, _, _, rfl, rfl, sizes (by rw [len_app, len_app, ln_sp]; omega), ?_⟩
          refine ⟨_, _, rfl, rfl, sizes (by rw [len_app, len_app, len_app, ln_sp]; omega), _, rfl, _, _, rfl, rfl, sizes (by have e := bl; rw [len_app, len_app, len_app, len_app, ln_sp]; exact Nat.le_trans (Nat.add_le_add_left bl _) (by omega)), ?_⟩
          refine ⟨o, _, _, rfl, rfl, o1, sizes1 (by rw [lo]; omega), fin (keep s1) ?_⟩
          rw [upd_same, outp_app, outp_cons, ← same]
          rfl
      · refine ⟨_, rfl, p, _, 0, _, rfl, rfl, t, atI_nat (j := 0) rfl, rfl, _, rfl, itN hk1 ?_⟩
        refine ⟨_, rfl, p, _, 0, _, rfl, rfl, t, atI_nat (j := 0) rfl, rfl, _, rfl, itS hk ?_⟩
        cases b with
        | true =>
          refine ⟨_, rfl, p, _, 2, _, rfl, rfl, t, atI_nat (j := 2) rfl, true, rfl, iteT ?_⟩
          refine ⟨_, rfl, ty o1, _, rfl, _, rfl, p, _, 0, _, rfl, rfl, t, atI_nat (j := 0) rfl, _, _, rfl, rfl, sizes (by omega), ?_⟩
          refine ⟨_, _, rfl, rfl, sizes (by rw [len_app, ln_sp]; omega), _, rfl, p, _, 1, _, rfl, rfl, t, atI_nat (j := 1) rfl, _, _, rfl, rfl, sizes (by rw [len_app, len_app, ln_sp]; omega), ?_⟩
          refine ⟨_, _, rfl, rfl, sizes (by rw [len_app, len_app, len_app, ln_sp]; omega), _, rfl, _, _, rfl, rfl, sizes (by have e := bl; rw [len_app, len_app, len_app, len_app, ln_sp]; exact Nat.le_trans (Nat.add_le_add_left bl _) (by omega)), ?_⟩
          refine ⟨o, _, _, rfl, rfl, o1, sizes1 (by rw [lo]; omega), fin (keep s1) ?_⟩
          rw [upd_same, outp_app, outp_cons, ← same]
          rfl
        | false =>
          refine ⟨_, rfl, p, _, 2, _, rfl, rfl, t, atI_nat (j := 2) rfl, false, rfl, iteF ?_⟩
          refine ⟨_, rfl, ty o1, _, rfl, _, rfl, p, _, 0, _, rfl, rfl, t, atI_nat (j := 0) rfl, _, _, rfl, rfl, sizes (by omega), ?_⟩
          refine ⟨_, _, rfl, rfl, sizes (by rw [len_app, ln_sp]; omega), _, rfl, p, _, 1, _, rfl, rfl, t, atI_nat (j := 1) rfl, _, _, rfl, rfl, sizes (by rw [len_app, len_app, ln_sp]; omega), ?_⟩
          refine ⟨_, _, rfl, rfl, sizes (by rw [len_app, len_app, len_app, ln_sp]; omega), _, rfl, _, _, rfl, rfl, sizes (by have e := bl; rw [len_app, len_app, len_app, len_app, ln_sp]; exact Nat.le_trans (Nat.add_le_add_left bl _) (by omega)), ?_⟩
          refine ⟨o, _, _, rfl, rfl, o1, sizes1 (by rw [lo]; omega), fin (keep s1) ?_⟩
          rw [upd_same, outp_app, outp_cons, ← same]
          rfl
    | rel p e t el eo =>
      cases e
      have t := Same.sqt s1 t
      rw [el] at tl fin
      refine ⟨_, rfl, p, _, 0, _, rfl, rfl, t, atI_nat (j := 0) rfl, rfl, _, rfl, itN (by decide +kernel) ?_⟩
      refine ⟨_, rfl, p, _, 0, _, rfl, rfl, t, atI_nat (j := 0) rfl, rfl, _, rfl, itN (by decide +kernel) ?_⟩
      refine ⟨_, rfl, p, _, 0, _, rfl, rfl, t, atI_nat (j := 0) rfl, rfl, _, rfl, itN (by decide +kernel) ?_⟩
      refine ⟨_, rfl, p, _, 0, _, rfl, rfl, t, atI_nat (j := 0) rfl, rfl, _, rfl, itN (by decide +kernel) ?_⟩
      refine ⟨_, rfl, p, _, 0, _, rfl, rfl, t, atI_nat (j := 0) rfl, rfl, _, rfl, itS rfl ?_⟩
      refine ⟨_, rfl, ty o1, _, rfl, _, _, rfl, rfl, sizes (by rw [ln_rel]; omega), ?_⟩
      refine ⟨o, _, _, rfl, rfl, o1, sizes1 (by rw [lo]; omega), fin (keep s1) ?_⟩
      rw [upd_same, outp_app]
      rfl
    | iff n' a1 b1 p u w c hd e t du dw es nk la lb oa ob =>
      cases e
      subst es
      obtain ⟨ua, us, rfl, hus, hua⟩ := dp_list du
      obtain ⟨wa, ws, rfl, hws, hwa⟩ := dp_list dw
      have wl : ws.length = b1.length := by rw [all_len hwa, dataL_map, List.length_map]
      have nl := nk.len
      obtain ⟨al, _⟩ := few_lines (d := c) (by omega) oa (by omega)
      obtain ⟨bl, _⟩ := few_lines (d := c) (by omega) ob (by omega)
      rw [lines_iff] at tl fin
      rw [List.length_cons, List.length_append, List.length_append, ind_len] at tl
      refine ⟨_, rfl, p, _, 0, _, rfl, rfl, Same.sqt s1 t, atI_nat (j := 0) rfl, rfl, _, rfl, itS rfl ?_⟩
      -- if x {
      refine ⟨_, rfl, ty o1, _, rfl, _, _, rfl, rfl, sizes (by rw [ln_if]; omega), _, rfl, p, _, 1, _, rfl, rfl, Same.sqt s1 t, atI_nat (j := 1) rfl, _, _, rfl, rfl, sizes (by rw [len_app, ln_if]; omega), _, _, rfl, rfl, sizes (by rw [len_app, len_app, ln_if, ln_op]; omega), ?_⟩
      refine ⟨o, _, _, rfl, rfl, o1, sizes1 (by rw [lo]; omega), ?_⟩
      have s2 := keep (zs := outp pf (linesL (l.take i)) ++ [.str (pf ++ "if " ++ n' ++ " {")]) s1
      have o2 : (upd H1 o (.lst (outp pf (linesL (l.take i)) ++ [.str (pf ++ "if " ++ n' ++ " {")]))) o = some (.lst (outp pf (linesL (l.take i) ++ [headIf n']))) := by
        rw [upd_same, outp_app, app_assoc, app_assoc, ← app_assoc "if "]
        rfl
      generalize upd H1 o (.lst (outp pf (linesL (l.take i)) ++ [.str (pf ++ "if " ++ n' ++ " {")])) = H2 at s2 o2
      -- its first list
      refine ⟨_, rfl, p, _, 2, _, rfl, rfl, Same.sqt s2 t, atI_nat (j := 2) rfl, _, rfl, _, _, rfl, rfl, sizes (by rw [ln_sp2]; omega), ua, pf ++ "  ", c, a1, rfl, by omega, by omega, by rw [len_app, ln_sp2]; omega, Dp.up s2 _ _ du, oa, by omega, fun r3 H3 s23 n3 e3 => ?_⟩
      have s3 := s2.trans s23
      have o3 := s23 _ _ o2
      have no3 : r3 ≠ o := fun z => by rw [z, o2] at n3; cases n3
      refine ⟨r3, rfl, ⟨_, SqL.of e3⟩, app_loop e3 o3 no3 (by decide) rfl rfl (sizes (by rw [outp_len, outp_len, List.length_append, List.length_singleton]; omega)) (fun y4' H4 k4 o4 => ?_)⟩
      have s4 : Same H H4 := fun b x e => by
        rw [k4 b (ne_of_none e ho)]
        exact s3 b x e
      rw [outp_in, ← outp_app] at o4
      -- its second list
      refine ⟨_, rfl, p, _, 3, _, rfl, rfl, Same.sqt s4 t, atI_nat (j := 3) rfl, wa, _, rfl, .inl (s4.seq hws), _, _, rfl, rfl, _, rfl, ite2 (fun e => ?_) (fun e => ?_)⟩
      · have hb : 0 < b1.length := by
          have := of_decide_eq_true e
          omega
        have nb : b1.isEmpty = false := by
          cases b1 with
          | nil => exact absurd hb (Nat.lt_irrefl 0)
          | cons _ _ => rfl
        rw [nb, if_neg Bool.false_ne_true] at tl fin
        rw [List.length_cons, ind_len, List.length_singleton] at tl
        refine ⟨_, rfl, ty o4, _, rfl, _, _, rfl, rfl, sizes (by rw [ln_else]; omega), o, _, _, rfl, rfl, o4, sizes1 (by rw [outp_len, List.length_append, List.length_append, ind_len, List.length_singleton]; omega), ?_⟩
        have s5 := keep (zs := outp pf (linesL (l.take i) ++ [headIf n'] ++ ind (linesL a1)) ++ [.str (pf ++ "} else {")]) s4
        have o5 : (upd H4 o (.lst (outp pf (linesL (l.take i) ++ [headIf n'] ++ ind (linesL a1)) ++ [.str (pf ++ "} else {")]))) o = some (.lst (outp pf (linesL (l.take i) ++ [headIf n'] ++ ind (linesL a1) ++ [("} else {" : Str)]))) := by
          rw [upd_same, outp_app pf _ [_]]
          rfl
        generalize upd H4 o (.lst (outp pf (linesL (l.take i) ++ [headIf n'] ++ ind (linesL a1)) ++ [.str (pf ++ "} else {")])) = H5 at s5 o5
        refine ⟨_, rfl, p, _, 3, _, rfl, rfl, Same.sqt s5 t, atI_nat (j := 3) rfl, _, rfl, _, _, rfl, rfl, sizes (by rw [ln_sp2]; omega), wa, pf ++ "  ", c, b1, rfl, by omega, by omega, by rw [len_app, ln_sp2]; omega, Dp.up s5 _ _ dw, ob, by omega, fun r6 H6 s56 n6 e6 => ?_⟩
        have s6 := s5.trans s56
        have o6 := s56 _ _ o5
        have no6 : r6 ≠ o := fun z => by rw [z, o5] at n6; cases n6
        refine ⟨r6, rfl, ⟨_, SqL.of e6⟩, app_loop e6 o6 no6 (by decide) rfl rfl (sizes (by rw [outp_len, outp_len]; simp only [List.length_append, List.length_singleton, ind_len]; omega)) (fun y7' H7 k7 o7 => ?_)⟩
        have s7 : Same H H7 := fun b x e => by
          rw [k7 b (ne_of_none e ho)]
          exact s6 b x e
        rw [outp_in, ← outp_app] at o7
        refine ⟨_, rfl, ty o7, _, rfl, _, _, rfl, rfl, sizes (by rw [ln_cl]; omega), o, _, _, rfl, rfl, o7, sizes1 (by rw [outp_len]; simp only [List.length_append, List.length_singleton, ind_len]; omega), fin (keep s7) ?_⟩
        rw [upd_same]
        simp only [outp_app, outp_cons, List.append_assoc, List.cons_append, List.nil_append]
        rfl
      · have hb : b1 = [] := by
          cases b1 with
          | nil => rfl
          | cons x r =>
            have : ¬ ((ws.length : Int) > 0) := fun z => e (decide_eq_true z)
            rw [wl, List.length_cons] at this
            omega
        subst hb
        simp only [List.isEmpty_nil, if_true, List.nil_append, List.length_nil, List.length_singleton] at tl fin
        refine ⟨_, rfl, ty o4, _, rfl, _, _, rfl, rfl, sizes (by rw [ln_cl]; omega), o, _, _, rfl, rfl, o4, sizes1 (by rw [outp_len]; simp only [List.length_append, List.length_singleton, ind_len]; omega), fin (keep s4) ?_⟩
        rw [upd_same]
        simp only [outp_app, outp_cons, List.append_assoc, List.cons_append, List.nil_append]
        rfl
    | rep k a1 p u c hd e t du es k1 k3 la oa =>
      cases e
      subst es
      obtain ⟨ua, us, rfl, hus, hua⟩ := dp_list du
      have nl := len_num k1 k3
      obtain ⟨al, _⟩ := few_lines (d := c) (by omega) oa (by omega)
      rw [lines_rep] at tl fin
      rw [List.length_cons, List.length_append, ind_len, List.length_singleton] at tl
      refine ⟨_, rfl, p, _, 0, _, rfl, rfl, Same.sqt s1 t, atI_nat (j := 0) rfl, rfl, _, rfl, itN (by decide +kernel) ?_⟩
      refine ⟨_, rfl, p, _, 0, _, rfl, rfl, Same.sqt s1 t, atI_nat (j := 0) rfl, rfl, _, rfl, itS rfl ?_⟩
      refine ⟨_, rfl, ty o1, _, rfl, _, _, rfl, rfl, sizes (by rw [ln_rep]; omega), _, rfl, p, _, 1, _, rfl, rfl, Same.sqt s1 t, atI_nat (j := 1) rfl, (k : Int), rfl, by show k.log2 < 1920; exact Nat.lt_of_le_of_lt (Nat.log2_le_self k) (by omega), _, _, rfl, rfl, sizes (by rw [len_app, ln_rep, nl]; omega), _, _, rfl, rfl, sizes (by rw [len_app, len_app, ln_rep, ln_op, nl]; omega), ?_⟩
      refine ⟨o, _, _, rfl, rfl, o1, sizes1 (by rw [lo]; omega), ?_⟩
      have s2 := keep (zs := outp pf (linesL (l.take i)) ++ [.str (pf ++ "repeat " ++ (toString (k : Int) : Str) ++ " {")]) s1
      have o2 : (upd H1 o (.lst (outp pf (linesL (l.take i)) ++ [.str (pf ++ "repeat " ++ (toString (k : Int) : Str) ++ " {")]))) o = some (.lst (outp pf (linesL (l.take i) ++ [headRep k]))) := by
        rw [upd_same, outp_app, app_assoc, app_assoc, ← app_assoc "repeat "]
        rfl
      generalize upd H1 o (.lst (outp pf (linesL (l.take i)) ++ [.str (pf ++ "repeat " ++ (toString (k : Int) : Str) ++ " {")])) = H2 at s2 o2
      refine ⟨_, rfl, p, _, 2, _, rfl, rfl, Same.sqt s2 t, atI_nat (j := 2) rfl, _, rfl, _, _, rfl, rfl, sizes (by rw [ln_sp2]; omega), ua, pf ++ "  ", c, a1, rfl, by omega, by omega, by rw [len_app, ln_sp2]; omega, Dp.up s2 _ _ du, oa, by omega, fun r3 H3 s23 n3 e3 => ?_⟩
      have s3 := s2.trans s23
      have o3 := s23 _ _ o2
      have no3 : r3 ≠ o := fun z => by rw [z, o2] at n3; cases n3
      refine ⟨r3, rfl, ⟨_, SqL.of e3⟩, app_loop e3 o3 no3 (by decide) rfl rfl (sizes (by rw [outp_len, outp_len, List.length_append, List.length_singleton]; omega)) (fun y4' H4 k4 o4 => ?_)⟩
      have s4 : Same H H4 := fun b x e => by
        rw [k4 b (ne_of_none e ho)]
        exact s3 b x e
      rw [outp_in, ← outp_app] at o4
      refine ⟨_, rfl, ty o4, _, rfl, _, _, rfl, rfl, sizes (by rw [ln_cl]; omega), o, _, _, rfl, rfl, o4, sizes1 (by rw [outp_len]; simp only [List.length_append, List.length_singleton, ind_len]; omega), fin (keep s4) ?_⟩
      rw [upd_same]
      simp only [outp_app, outp_cons, List.append_assoc, List.cons_append, List.nil_append]
      rfl
  · rw [ePv] at hp
    obtain ⟨y3, y4, y5, rfl, s1, o1⟩ := hp
    rw [List.take_of_length_le (by omega)] at o1
    exact ⟨_, rfl, q o H1 s1 ho o1⟩
end
end K53

/-! KE2 -/
/-! _law_written -/
namespace K53
open PySem PySem.Spec PyProof.Rows L2
/-- what a routine is, by its pair -/
theorem rtAt {K : PySem.W.Frag} {H : Hp} {v : V} {r : Str × List S} (h : Dp K H v (dataR r)) : ∃ p u us, v = .ref p ∧ SqT K H p [.str r.1, .ref u] ∧ Dp K H (.ref u) (.list (dataL r.2)) ∧ SqL K H u us ∧ DpAll K H us (dataL r.2) := by
  obtain ⟨p, xs, rfl, hs, ha⟩ := dp_tup (ds := [.str r.1, .list (dataL r.2)]) h
  obtain ⟨v1, r1, rfl, h1, ha⟩ := all_cons ha
  obtain ⟨v2, r2, rfl, h2, ha⟩ := all_cons ha
  have e2 := all_nil ha
  rw [e2, dp_str h1] at hs
  obtain ⟨u, us, rfl, hu, hd⟩ := dp_list h2
  exact ⟨p, u, us, rfl, hs, h2, hu, hd⟩
theorem rt_get {rs : List (Str × List S)} {i : Nat} {d : PyData} (h : (rs.map dataR)[i]? = some d) : ∃ r, rs[i]? = some r ∧ d = dataR r ∧ r ∈ rs := by
  rw [List.getElem?_map] at h
  obtain ⟨s, e1, e2⟩ := Option.map_eq_some_iff.mp h
  exact ⟨s, e1, e2.symm, List.mem_of_getElem? e1⟩
theorem outp_empty (l : List Str) : outp ("" : Str) l = l.map V.str := by
  unfold outp
  exact List.map_congr_left fun x _ => by
    show V.str (("" : Str) ++ x) = V.str x
    rw [show ("" : Str) ++ x = x from empty_app x]
theorem strs_app (a b : List Str) : (a ++ b).map V.str = a.map V.str ++ b.map V.str := List.map_append
theorem outp_sp (l : List Str) : outp ("  " : Str) l = (ind l).map V.str := by
  unfold outp ind
  rw [List.map_map] <;> rfl
theorem take_rt {rs : List (Str × List S)} {i : Nat} {r : Str × List S} (h : rs[i]? = some r) : (rs.take (i + 1)).flatMap linesR = (rs.take i).flatMap linesR ++ linesR r := by
  rw [List.take_add_one, h, List.flatMap_append]
  congr 1
  exact List.append_nil _
theorem sum_le {m : Nat} : ∀ {l : List Nat}, (∀ x ∈ l, x ≤ m) → l.sum ≤ m * l.length
  | [], _ => Nat.zero_le _
  | a :: r, h => by
    have h1 := h a List.mem_cons_self
    have h2 := sum_le (m := m) fun x hx => h x (List.mem_cons_of_mem _ hx)
    rw [List.sum_cons, List.length_cons, Nat.mul_succ]
    omega
theorem ln_nl : ("\n" : Str).length = 1 := by decide +kernel
theorem join_room {l : List Str} (n : l.length ≤ 300) (h : ∀ x ∈ l, x.length ≤ 34) : ((l.map endl).map (·.length)).sum + (l.map endl).length * ("" : Str).length ≤ 16777216 := by
  have e0 : ("" : Str).length = 0 := by decide +kernel
  have h1 : ((l.map endl).map (·.length)).sum ≤ 35 * ((l.map endl).map (·.length)).length := sum_le fun x hx => by
    obtain ⟨y, hy, rfl⟩ := List.mem_map.mp hx
    obtain ⟨z, hz, rfl⟩ := List.mem_map.mp hy
    show (z ++ ("\n" : Str)).length ≤ 35
    rw [len_app, ln_nl]
    have := h z hz
    omega
  rw [List.length_map, List.length_map] at h1
  rw [e0]
  omega
/-- the conditions of a program's parts -/
structure Parts (rs : List (Str × List S)) (b : List S) : Prop where
  few : rs.length ≤ 3
  names : ∀ r ∈ rs, NameOk r.1 ∧ r.2.length ≤ 3 ∧ OkL 1 r.2
  fewB : b.length ≤ 6
  okB : OkL 2 b
theorem Parts.lines {rs : List (Str × List S)} {b : List S} (g : Parts rs b) : (rs.flatMap linesR).length ≤ 69 ∧ (∀ x ∈ rs.flatMap linesR, x.length ≤ 34) ∧ (linesL b).length ≤ 186 ∧ (∀ x ∈ linesL b, x.length ≤ 34) := by
  obtain ⟨n2, m2⟩ := lines_Rs g.names
  obtain ⟨n, m⟩ := few_lines (by decide) g.okB g.fewB
  have := g.few
  exact ⟨by omega, fun x hx => (m2 x hx).2, n, m⟩
section
variable {P : Program} {w : World} {K : PySem.W.Frag} {mg : Str → Option Value} {base : Heap}
def spWritten (K : PySem.W.Frag) : Sp := fun vs H Q _ => ∃ (a b : Addr) (rs : List (Str × List S)) (l : List S), vs = [.ref a, .ref b] ∧ Dp K H (.ref a) (.list (rs.map dataR)) ∧ Dp K H (.ref b) (.list (dataL l)) ∧ Parts rs l ∧
  ∀ H', Same H H' → Q (.str (textP rs l)) H'
theorem ok_written (B : Bi mg) {f : Addr} {fd : FuncData} (A : At K mg d_l_written "_law_written" f fd) {k : Nat} (c1 : Cal P w K mg base "_law_lines" psLines k (spLines K 3)) : Cal P w K mg base "_law_written" ["_law_routines_here", "_law_body"] (k + 1) (spWritten K) := by
  refine ⟨f, fd, A.F.ok sc_l_written (fun vs H Q E h => ?_) (fun cdv A' outer s H vs Q E hr h => ?_), A.m, A.F.kp, A.F.bindsN fun _ _ _ _ _ _ us hl => match us, hl with | [_, _], _ => rfl⟩
  · obtain ⟨a, b, rs, l, rfl, _⟩ := h
    rfl
  obtain ⟨a, b, rs, l, rfl, hda, hdb, pt, q⟩ := h
  obtain ⟨f1, fd1, G1, m1, k1, b1⟩ := c1
  have nd := sc_l_written.nd
  obtain ⟨a0, vs, ea, hS, hAll⟩ := dp_list hda
  cases ea
  have hlen : vs.length = rs.length := by rw [all_len hAll, List.length_map]
  obtain ⟨nR, xR, nB, xB⟩ := pt.lines
  refine ⟨_, PSs.nox (pss_cons (ps_set (i := 2) nd rfl (.inl rfl) (pe_lst pa_nil))
    (pss_cons (ps_for PassesOwn.never rfl (pi_list (pv 0)) (pg_tup (by rfl) (pgs_cons (pg_name (i := 3) nd rfl (.inl rfl)) (pgs_cons (pg_name (i := 4) nd rfl (.inl rfl)) pgs_nil)))
      (pss_cons (ps_expr (pe_bm PySem.F.plainAttrs_list PySem.F.slot_list_append PySem.F.type_list_append mt_append (pv 2) (pa_cons (pe_op op_add_str (pe_op op_add_str pe_str (pv 3)) pe_str) pa_nil)))
      (pss_cons (ps_for PassesOwn.never rfl (pi_list (pe_call G1 hr (by rfl) m1 k1 b1 .nil pass0 (pa_cons (pv 4) (pa_cons pe_str pa_nil)))) (pg_name (i := 5) nd rfl (.inl rfl))
        (pss_one (ps_expr (pe_bm PySem.F.plainAttrs_list PySem.F.slot_list_append PySem.F.type_list_append mt_append (pv 2) (pa_cons (pv 5) pa_nil)))))
      (pss_one (ps_expr (pe_bm PySem.F.plainAttrs_list PySem.F.slot_list_append PySem.F.type_list_append mt_append (pv 2) (pa_cons pe_str pa_nil)))))))
    (pss_cons (ps_for PassesOwn.never rfl (pi_list (pe_call G1 hr (by rfl) m1 k1 b1 .nil pass0 (pa_cons (pv 1) (pa_cons pe_str pa_nil)))) (pg_name (i := 5) nd rfl (.inl rfl))
      (pss_one (ps_expr (pe_bm PySem.F.plainAttrs_list PySem.F.slot_list_append PySem.F.type_list_append mt_append (pv 2) (pa_cons (pv 5) pa_nil)))))
    (pss_one (ps_ret (pe_join pe_str (pe_lc (own := [("_law_line", 5)]) (g := gName 5) (tt := tYes) (by rfl) nd (pi_list (pv 2)) (blkOk_by (N := ["_law_routines_here", "_law_body", "_law_lines_here", "_law_name_here", "_law_statements_here", "_law_line"]) (sc := defScope s_l_written) (by decide +kernel)) (fun _ _ _ _ _ => pg_name (i := 5) nd rfl (.inl rfl)) (fun _ _ _ _ _ => pts_nil) (fun _ _ _ _ _ => pe_op op_add_str (pv 5) pe_str)))))))), ?_⟩
  refine ⟨Nat.zero_le _, fun o ho => ?_⟩
  have keep : ∀ {H2 : Hp} {zs : List V}, Same H H2 → Same H (upd H2 o (.lst zs)) := fun s2 b u e => by
    rw [upd_ne (ne_of_none e ho)]
    exact s2 b u e
  have ty : ∀ {H2 : Hp} {zs : List V}, H2 o = some (.lst zs) → tyV K "list" (.ref o) H2 := fun e => .inl ⟨rfl, _, SqL.of e⟩
  -- the routines
  obtain ⟨Pv, ePv⟩ : ∃ Pv : Nat → L2.St → Hp → Prop, Pv = fun i σ H1 => ∃ (y3 y4 y5 : Option V), σ = [some (.ref a), some (.ref b), some (.ref o), y3, y4, y5] ∧ Same H H1 ∧ H1 o = some (.lst (((rs.take i).flatMap linesR).map V.str)) := ⟨_, rfl⟩
  refine ⟨_, rfl, a, rfl, ⟨_, (same_new ho).seq hS⟩, for_list (K := K) (a := a) (xs := vs) Pv (by rw [ePv]; exact ⟨_, _, _, rfl, same_new ho, upd_same⟩) (fun i σ H1 _ hp => by
    rw [ePv] at hp
    obtain ⟨_, _, _, _, s1, _⟩ := hp
    exact s1.seq hS) (fun i x σ H1 hx hp => ?_) (fun σ H1 hp => ?_)⟩
  · rw [ePv] at hp
    obtain ⟨y3, y4, y5, rfl, s1, o1⟩ := hp
    obtain ⟨dat, hdat, hdx⟩ := all_get hAll hx
    obtain ⟨r, hr', rfl, hmem⟩ := rt_get hdat
    obtain ⟨nk, l3, ok1⟩ := pt.names r hmem
    obtain ⟨p, u, us, rfl, hT, hdu, _, _⟩ := rtAt hdx
    have tk := take_rt hr'
    have nl := nk.len
    have tl : ((rs.take i).flatMap linesR).length + (linesR r).length ≤ 69 := by
      have h1 : rs.flatMap linesR = (rs.take (i + 1)).flatMap linesR ++ (rs.drop (i + 1)).flatMap linesR := by rw [← List.flatMap_append, List.take_append_drop]
      have h2 := congrArg List.length h1
      rw [tk, List.length_append, List.length_append] at h2
      omega
    have el : linesR r = headRt r.1 :: (ind (linesL r.2) ++ [("}" : Str)]) := rfl
    have ll : (linesR r).length = (linesL r.2).length + 2 := by
      rw [el, List.length_cons, List.length_append, ind_len]
      rfl
    refine ⟨p, _, rfl, Same.sqt s1 hT, rfl, _, _, rfl, _, _, rfl, rfl, ?_⟩
    refine ⟨_, rfl, ty o1, _, rfl, _, _, rfl, rfl, sizes (by rw [ln_rt]; omega), _, _, rfl, rfl, sizes (by rw [len_app, ln_rt, ln_op]; omega), o, _, _, rfl, rfl, o1, sizes1 (by rw [List.length_map]; omega), ?_⟩
    have s2 := keep (zs := ((rs.take i).flatMap linesR).map V.str ++ [.str (headRt r.1)]) s1
    have o2 : (upd H1 o (.lst (((rs.take i).flatMap linesR).map V.str ++ [.str (headRt r.1)]))) o = some (.lst (((rs.take i).flatMap linesR ++ [headRt r.1]).map V.str)) := by
      rw [upd_same, strs_app]
      rfl
    refine ⟨_, rfl, u, "  ", 1, r.2, rfl, by decide, by decide, by decide +kernel, Dp.up s2 _ _ hdu, ok1, by omega, fun r3 H3 s23 n3 e3 => ?_⟩
    have s3 := s2.trans s23
    have o3 := s23 _ _ o2
    have no3 : r3 ≠ o := fun z => by rw [z] at n3; exact absurd (n3.symm.trans o2) (fun z => nomatch z)
    refine ⟨r3, rfl, ⟨_, SqL.of e3⟩, app_loop e3 o3 no3 (by decide) rfl rfl (sizes (by rw [outp_len, List.length_map, List.length_append, List.length_singleton]; omega)) (fun y4' H4 k4 o4 => ?_)⟩
    have s4 : Same H H4 := fun b x e => by
      rw [k4 b (ne_of_none e ho)]
      exact s3 b x e
    rw [outp_sp, ← strs_app] at o4
    refine ⟨_, rfl, ty o4, o, _, _, rfl, rfl, o4, sizes1 (by rw [List.length_map]; simp only [List.length_append, List.length_singleton, ind_len]; omega), ?_⟩
    show Pv (i + 1) _ _
    rw [ePv]
    refine ⟨_, _, _, rfl, keep s4, ?_⟩
    rw [upd_same, tk, el]
    simp only [strs_app, List.map_cons, List.map_nil, List.append_assoc, List.cons_append, List.nil_append]
  · rw [ePv] at hp
    obtain ⟨y3, y4, y5, rfl, s1, o1⟩ := hp
    rw [List.take_of_length_le (by omega)] at o1
    -- the body
    refine ⟨_, rfl, b, "", 2, l, rfl, by decide, by decide, by decide +kernel, Dp.up s1 _ _ hdb, pt.okB, pt.fewB, fun r3 H3 s23 n3 e3 => ?_⟩
    have s3 := s1.trans s23
    have o3 := s23 _ _ o1
    have no3 : r3 ≠ o := fun z => by rw [z, o1] at n3; cases n3
    rw [outp_empty] at e3
    refine ⟨r3, rfl, ⟨_, SqL.of e3⟩, app_loop e3 o3 no3 (by decide) rfl rfl (sizes (by rw [List.length_map, List.length_map]; omega)) (fun y4' H4 k4 o4 => ?_)⟩
    have s4 : Same H H4 := fun b x e => by
      rw [k4 b (ne_of_none e ho)]
      exact s3 b x e
    rw [← strs_app] at o4
    have el : rs.flatMap linesR ++ linesL l = linesP rs l := rfl
    rw [el] at o4
    have nP : (linesP rs l).length ≤ 300 := by
      rw [← el, List.length_append]
      omega
    have xP : ∀ x ∈ linesP rs l, x.length ≤ 34 := fun x hx => by
      rw [← el] at hx
      rcases List.mem_append.mp hx with hx | hx
      · exact xR x hx
      · exact xB x hx
    -- the text
    refine ⟨⟨_, rfl⟩, _, rfl, o, rfl, ⟨_, SqL.of o4⟩, fun D hD => ?_⟩
    have dO : o ≠ D := ne_of_none o4 hD
    refine lc_list (K := K) (a := o) (xs := (linesP rs l).map V.str) (fun i H5 => (∀ x, x ≠ D → H5 x = H4 x) ∧ H5 D = some (.lst (((linesP rs l).take i).map fun x => V.str (endl x)))) ⟨fun x hx => upd_ne hx, by rw [upd_same] <;> rfl⟩ (fun i H5 _ hp => SqL.of (by rw [hp.1 o dO]; exact o4)) (fun i x H5 hx hp => ?_) (fun H5 hp => ?_)
    · rw [List.getElem?_map] at hx
      obtain ⟨y, hy, rfl⟩ := Option.map_eq_some_iff.mp hx
      have il : i < (linesP rs l).length := (List.getElem?_eq_some_iff.mp hy).1
      have yl := xP y (List.mem_of_getElem? hy)
      refine ⟨rfl, ?_⟩
      refine ⟨_, rfl, _, _, rfl, rfl, sizes (by rw [ln_nl]; omega), _, hp.2, sizes1 (by rw [List.length_map, List.length_take]; omega), fun z hz => ?_, ?_⟩
      · rw [upd_ne hz]
        exact hp.1 z hz
      · rw [upd_same, List.take_add_one, hy, List.map_append]
        rfl
    · rw [List.length_map, List.take_length] at hp
      refine ⟨"", D, (linesP rs l).map endl, rfl, rfl, .inl (SqL.of (by rw [hp.2, List.map_map] <;> rfl)), join_room nP xP, q H5 fun x u e => ?_⟩
      have nx : x ≠ D := fun z => by
        have := s4 x u e
        rw [z, hD] at this
        cases this
      rw [hp.1 x nx]
      exact s4 x u e
end
end K53

/-! KE3 -/
/-! _law_routines, _law_small -/
namespace K53
open PySem PySem.Spec PyProof.Rows L2
theorem cut_drop (xs : List V) (k : Nat) : cutV xs (some (k : Int)) none = xs.drop k := by
  unfold cutV
  rw [HT.sIx_nat, HT.sIx_none]
  by_cases h : k ≤ xs.length
  · rw [Nat.min_eq_left h, List.take_of_length_le (by rw [List.length_drop]; exact Nat.le_refl _)]
  · rw [Nat.min_eq_right (by omega), List.drop_length, List.drop_eq_nil_of_le (by omega), List.take_nil]
theorem cut_last (xs : List V) : cutV xs none (some (-1)) = xs.dropLast := by
  unfold cutV
  rw [HT.sIx_none]
  have e : HT.sIx xs.length xs.length (some (-1)) = xs.length - 1 := by
    show (if (-1 : Int) < 0 then (-1 + (xs.length : Int)).toNat else min (-1 : Int).toNat xs.length) = _
    rw [if_pos (by decide)]
    omega
  rw [e, List.drop_zero, Nat.sub_zero, List.dropLast_eq_take]
section
variable {P : Program} {w : World} {K : PySem.W.Frag} {mg : Str → Option Value} {base : Heap}
theorem stmts_all (B : Bi mg) {f : Addr} {fd : FuncData} (A : At K mg d_l_statements "_law_statements" f fd) (c1 : Cal P w K mg base "_law_digit" ["_law_digits_here", "_law_many"] 1 spDigit)
    (c2 : Cal P w K mg base "_law_plain" ["_law_digits_here", "_law_names_here"] 2 (spPlain K)) : ∀ n : Nat, FnOk P w K mg base CX0 (n + 2) f fd psStmts (spStmts K n)
  | 0 => vac fun vs H Q E h => by
    obtain ⟨_, _, _, _, _, _, dep, _, _, h, _⟩ := h
    exact absurd h (Nat.not_lt_zero _)
  | n + 1 => ok_stmts B A c1 c2 (stmts_all B A c1 c2 n)
theorem cal_stmts (B : Bi mg) {f : Addr} {fd : FuncData} (A : At K mg d_l_statements "_law_statements" f fd) (c1 : Cal P w K mg base "_law_digit" ["_law_digits_here", "_law_many"] 1 spDigit)
    (c2 : Cal P w K mg base "_law_plain" ["_law_digits_here", "_law_names_here"] 2 (spPlain K)) : Cal P w K mg base "_law_statements" psStmts 5 (spStmts K 3) :=
  ⟨f, fd, stmts_all B A c1 c2 3, A.m, A.F.kp, A.F.bindsN fun _ _ _ _ _ _ us hl => match us, hl with | [_, _, _, _, _], _ => rfl⟩
theorem lines_all (B : Bi mg) {f : Addr} {fd : FuncData} (A : At K mg d_l_lines "_law_lines" f fd) : ∀ n : Nat, FnOk P w K mg base CX0 n f fd psLines (spLines K n)
  | 0 => vac fun vs H Q E h => by
    obtain ⟨_, _, dep, _, _, h, _⟩ := h
    exact absurd h (Nat.not_lt_zero _)
  | n + 1 => ok_lines B A (lines_all B A n)
theorem cal_lines (B : Bi mg) {f : Addr} {fd : FuncData} (A : At K mg d_l_lines "_law_lines" f fd) : Cal P w K mg base "_law_lines" psLines 3 (spLines K 3) :=
  ⟨f, fd, lines_all B A 3, A.m, A.F.kp, A.F.bindsN fun _ _ _ _ _ _ us hl => match us, hl with | [_, _], _ => rfl⟩
/-! ### _law_routines -/
def spRoutines (K : PySem.W.Frag) : Sp := fun vs H Q _ => ∃ (d a : Addr) (z : Int) (xs : List Str) (c : Nat), vs = [.ref d, .ref a, .int (c : Int)] ∧ H d = some (.lst [.int z]) ∧ NmL K H d a xs ∧ xs ≠ [] ∧ c ≤ 3 ∧
  ∀ (p : Addr) (rs : List (Str × List S)) (z' : Int) (H' : Hp), rs.length = c → (∀ r ∈ rs, NameOk r.1 ∧ r.1.length ≠ 15 ∧ r.2.length ≤ 3 ∧ OkL 1 r.2) → (rs.map (·.1)).Nodup → Kp (· = d) H H' → H' d = some (.lst [.int z']) → Dp K (nw H H') (.ref p) (.list (rs.map dataR)) → Q (.ref p) H'
theorem ok_routines (B : Bi mg) {f : Addr} {fd : FuncData} (A : At K mg d_l_routines "_law_routines" f fd) (c1 : Cal P w K mg base "_law_names" ["_law_digits_here", "_law_count"] 3 spNames)
    (c2 : Cal P w K mg base "_law_statements" psStmts 5 (spStmts K 3)) : Cal P w K mg base "_law_routines" ["_law_digits_here", "_law_names_here", "_law_count"] 6 (spRoutines K) := by
  refine ⟨f, fd, A.F.ok sc_l_routines (fun vs H Q E h => ?_) (fun cdv A' outer s H vs Q E hr h => ?_), A.m, A.F.kp, A.F.bindsN fun _ _ _ _ _ _ us hl => match us, hl with | [_, _, _], _ => rfl⟩
  · obtain ⟨d, a, z, xs, c, rfl, _⟩ := h
    rfl
  obtain ⟨d, a, z, xs, c, rfl, hd, hx, hne, hc, q⟩ := h
  obtain ⟨f1, fd1, G1, m1, k1, b1⟩ := c1.mono (show 3 ≤ 5 by decide)
  obtain ⟨f2, fd2, G2, m2, k2, b2⟩ := c2
  have nd := sc_l_routines.nd
  refine ⟨_, PSs.nox (pss_cons (ps_set (i := 3) nd rfl (.inl rfl) (pe_lst pa_nil))
    (pss_cons (ps_set (i := 4) nd rfl (.inl rfl) (pe_call G1 hr (by rfl) m1 k1 b1 .nil pass0 (pa_cons (pv 0) (pa_cons (pv 2) pa_nil))))
    (pss_cons (ps_for PassesOwn.never rfl (pi_range1 (by rfl) B.range (pa_cons (pv 2) pa_nil)) (pg_name (i := 5) nd rfl (.inl rfl))
      (pss_one (ps_expr (pe_bm PySem.F.plainAttrs_list PySem.F.slot_list_append PySem.F.type_list_append mt_append (pv 3) (pa_cons (pe_tup (pa_cons (pe_ix ix_list (pv 4) (pv 5) (fun _ _ => rfl)) (pa_cons (pe_call G2 hr (by rfl) m2 k2 b2 .nil pass0 (pa_cons (pv 0) (pa_cons (pv 1) (pa_cons (pe_slice sl_list (pv 4) (po_some (pe_op op_add (pv 5) pe_int)) po_none) (pa_cons pe_int (pa_cons pe_int pa_nil)))))) pa_nil))) pa_nil)))))
    (pss_one (ps_ret (pv 3)))))), ?_⟩
  have hD : ∀ x, x = d → mu (H x) = true := fun x e => by rw [e, hd]; rfl
  refine ⟨Nat.zero_le _, fun o ho => ?_⟩
  have hdo : d ≠ o := ne_of_none hd ho
  have nodo : ¬ (o = d) := fun e => hdo e.symm
  -- titles
  refine ⟨_, rfl, _, rfl, d, z, c, rfl, by rw [upd_ne hdo]; exact hd, by omega, fun ts z1 H1 t nt okt ndt k1' nt0 t1 u1 => ?_⟩
  have s1 : Kp (· = d) H H1 := (Kp.new ho).trans k1'
  have o1 : H1 o = some (.lst []) := k1'.same o _ nodo upd_same
  have hto : t ≠ o := fun e => by rw [e, upd_same] at nt0; cases nt0
  have htd : t ≠ d := fun e => by rw [e, upd_ne hdo, hd] at nt0; cases nt0
  have ht0 : H t = none := by
    rw [upd_ne hto] at nt0
    exact nt0
  have bl0 : Bl K H H1 o [] [] := (Bl.start ho).keep (D := (· = d)) k1' nodo hD
  obtain ⟨Pv, ePv⟩ : ∃ Pv : Nat → L2.St → Hp → Prop, Pv = fun i σ H2 => ∃ (vs : List V) (rs : List (Str × List S)) (z2 : Int) (y5 : Option V), rs.length = i ∧ rs.map (·.1) = ts.take i ∧ (∀ r ∈ rs, NameOk r.1 ∧ r.1.length ≠ 15 ∧ r.2.length ≤ 3 ∧ OkL 1 r.2) ∧ σ = [some (.ref d), some (.ref a), some (.int (c : Int)), some (.ref o), some (.ref t), y5] ∧
      Kp (· = d) H H2 ∧ Bl K H H2 o vs (rs.map dataR) ∧ H2 t = some (.lst (ts.map V.str)) ∧ H2 d = some (.lst [.int z2]) := ⟨_, rfl⟩
  refine ⟨_, rfl, (c : Int), rfl, by omega, by omega, ?_⟩
  rw [show ((c : Int)).toNat = c from Int.toNat_natCast c]
  refine for_range (lo := 0) (n := c) Pv (by
      rw [ePv]
      exact ⟨[], [], z1, _, rfl, rfl, (fun _ m => nomatch m), rfl, s1, bl0, t1, u1⟩) (fun i σ H2 hi hp => ?_) (fun σ H2 hp => ?_)
  · rw [ePv] at hp
    obtain ⟨vs, rs, z2, y5, lr, er, okr, rfl, s2, bl, t2, u2⟩ := hp
    have vl := bl.len
    rw [List.length_map] at vl
    have il : i < ts.length := by omega
    have hDt : ∀ x, x = d → mu (H2 x) = true := fun x e => by rw [e, u2]; rfl
    have ei : ((0 : Int) + (i : Int)) = (i : Int) := by omega
    have g : atI (ts.map V.str) (0 + (i : Int)) = some (.str ts[i]) := at_of (j := i) (by omega) (by rw [List.getElem?_map, List.getElem?_eq_getElem il] <;> rfl)
    have okn := okt _ (List.getElem_mem il)
    refine ⟨_, rfl, .inl ⟨rfl, _, SqL.of bl.at_⟩, _, rfl, _, rfl, t, _, _, _, rfl, rfl, SqL.of t2, g, ?_⟩
    -- titles[k + 1:]
    have e1 : (fun i j => V.int (i + j)) ((0 : Int) + (i : Int)) 1 = V.int ((i + 1 : Nat) : Int) := by
      show V.int (0 + (i : Int) + 1) = _
      congr 1
      omega
    refine ⟨_, rfl, _, rfl, _, rfl, _, rfl, _, _, rfl, rfl, ?_⟩
    refine ⟨((i + 1 : Nat) : Int), e1, t, _, rfl, SqL.of t2, fun p3 n3 => ?_⟩
    rw [cut_drop, ← List.map_drop]
    have hd3 : d ≠ p3 := ne_of_none u2 n3
    have k3 : Kp (· = d) H2 (upd H2 p3 (.lst ((ts.drop (i + 1)).map V.str))) := Kp.new n3
    have x3 := hx.keep (s2.trans k3)
    have y3 : NmL K (upd H2 p3 (.lst ((ts.drop (i + 1)).map V.str))) d p3 (ts.drop (i + 1)) := ⟨SqL.of upd_same, fun e => hd3 e.symm, fun x m => (okt x (List.mem_of_mem_drop m)).ok, by rw [List.length_drop]; omega⟩
    refine ⟨d, a, p3, z2, xs, ts.drop (i + 1), 1, 3, rfl, by decide, by decide, by rw [upd_ne hd3]; exact u2, x3, hne, y3, fun p4 l4 z4 H4 n4 o4 k4 u4 d4 => ?_⟩
    have s24 : Kp (· = d) H2 H4 := k3.trans k4
    refine ⟨sizes (by show 2 ≤ 100000; decide), fun p5 n5 => ?_⟩
    have hd5 : d ≠ p5 := ne_of_none u4 n5
    have k5 : Kp (· = d) H4 (upd H4 p5 (.tup [.str ts[i], .ref p4])) := Kp.new n5
    have n52 : H2 p5 = none := s24.free (fun e => hd5 e.symm) n5
    have dv : Dp K (nw H2 (upd H4 p5 (.tup [.str ts[i], .ref p4]))) (.ref p5) (dataR (ts[i], l4)) := dp_tuple n52 (.cons (.str _) (.cons (dp_made k3 k5 hDt d4) .nil))
    have b5 := (bl.keep (s24.trans k5) nodo hD).push s2 bl.at_ dv
    refine ⟨o, vs, _, rfl, rfl, (s24.trans k5).same o _ nodo bl.at_, sizes1 (by omega), ?_⟩
    show Pv (i + 1) _ _
    rw [ePv]
    refine ⟨vs ++ [.ref p5], rs ++ [(ts[i], l4)], z4, _, by rw [List.length_append, lr]; rfl, ?_, fun r m => ?_, rfl, ⟨fun b x nb e => ?_, fun b hb e => ?_⟩, ?_, ?_, ?_⟩
    · rw [List.map_append, er, List.take_add_one, List.getElem?_eq_getElem il]
      rfl
    · rcases List.mem_append.mp m with m | m
      · exact okr r m
      · rw [List.mem_singleton.mp m]
        exact ⟨okn.ok, okn.len, n4, o4⟩
    · rw [upd_ne (ne_of_none e ho)]
      exact ((s2.trans s24).trans k5).same b x nb e
    · rw [upd_ne (show b ≠ o from fun z => hdo (hb.symm.trans z))]
      exact ((s2.trans s24).trans k5).mt b hb e
    · rw [List.map_append]
      exact b5
    · rw [upd_ne hto]
      exact (s24.trans k5).same t _ htd t2
    · rw [upd_ne hdo, upd_ne hd5]
      exact u4
  · rw [ePv] at hp
    obtain ⟨vs, rs, z2, y5, lr, er, okr, rfl, s2, bl, t2, u2⟩ := hp
    rw [List.take_of_length_le (by omega)] at er
    exact ⟨_, rfl, q o rs z2 H2 lr okr (by rw [er]; exact ndt) s2 u2 bl.done⟩
/-! ### _law_small -/
theorem text_len {rs : List (Str × List S)} {b : List S} (g : Parts rs b) : (textP rs b).length ≤ 10500 := by
  obtain ⟨nR, xR, nB, xB⟩ := g.lines
  have nP : (linesP rs b).length ≤ 300 := by
    unfold linesP
    rw [List.length_append]
    omega
  have h1 : (((linesP rs b).map endl).map fun x => (cs x).length).sum ≤ 35 * (((linesP rs b).map endl).map fun x => (cs x).length).length := sum_le fun x hx => by
    obtain ⟨y, hy, rfl⟩ := List.mem_map.mp hx
    obtain ⟨z, hz, rfl⟩ := List.mem_map.mp hy
    rw [← len_cs]
    show (z ++ ("\n" : Str)).length ≤ 35
    rw [len_app, ln_nl]
    rcases List.mem_append.mp hz with hz | hz
    · have := xR z hz
      omega
    · have := xB z hz
      omega
  rw [List.length_map, List.length_map] at h1
  unfold textP
  rw [len_cs, glue_nil, List.length_flatMap]
  omega
def spSmall (K : PySem.W.Frag) : Sp := fun vs H Q _ => ∃ (d : Addr) (z : Int), vs = [.ref d] ∧ H d = some (.lst [.int z]) ∧
  ∀ (p ra ba : Addr) (rs : List (Str × List S)) (l : List S) (H' : Hp), Good rs l → Kp (· = d) H H' → H' p = some (.tup [.ref ra, .ref ba]) → Dp K H' (.ref ra) (.list (rs.map dataR)) → Dp K H' (.ref ba) (.list (dataL l)) → Q (.ref p) H'
theorem Good.parts {rs : List (Str × List S)} {l : List S} (g : Good rs l) : Parts rs l := ⟨g.few, fun r m => ⟨(g.names r m).1, (g.names r m).2.2⟩, g.fewB, g.okB⟩
theorem ok_small (B : Bi mg) {f : Addr} {fd : FuncData} (A : At K mg d_l_small "_law_small" f fd) (c1 : Cal P w K mg base "_law_names" ["_law_digits_here", "_law_count"] 3 spNames)
    (c2 : Cal P w K mg base "_law_routines" ["_law_digits_here", "_law_names_here", "_law_count"] 6 (spRoutines K)) (c3 : Cal P w K mg base "_law_digit" ["_law_digits_here", "_law_many"] 1 spDigit)
    (c4 : Cal P w K mg base "_law_statements" psStmts 5 (spStmts K 3)) (c5 : Cal P w K mg base "_law_written" ["_law_routines_here", "_law_body"] 4 (spWritten K)) : Cal P w K mg base "_law_small" ["_law_digits_here"] 7 (spSmall K) := by
  refine ⟨f, fd, A.F.ok sc_l_small (fun vs H Q E h => ?_) (fun cdv A' outer s H vs Q E hr h => ?_), A.m, A.F.kp, A.F.bindsN fun _ _ _ _ _ _ us hl => match us, hl with | [_], _ => rfl⟩
  · obtain ⟨d, z, rfl, _⟩ := h
    rfl
  obtain ⟨d, z, rfl, hd, q⟩ := h
  obtain ⟨f1, fd1, G1, m1, k1, b1⟩ := c1.mono (show 3 ≤ 6 by decide)
  obtain ⟨f2, fd2, G2, m2, k2, b2⟩ := c2
  obtain ⟨f3, fd3, G3, m3, k3, b3⟩ := c3.mono (show 1 ≤ 6 by decide)
  obtain ⟨f4, fd4, G4, m4, k4, b4⟩ := c4.mono (show 5 ≤ 6 by decide)
  obtain ⟨f5, fd5, G5, m5, k5, b5⟩ := c5.mono (show 4 ≤ 6 by decide)
  have nd := sc_l_small.nd
  refine ⟨_, PSs.nox (pss_cons (ps_set (i := 1) nd rfl (.inl rfl) (pe_call G1 hr (by rfl) m1 k1 b1 .nil pass0 (pa_cons (pv 0) (pa_cons pe_int pa_nil))))
    (pss_cons (ps_set (i := 2) nd rfl (.inl rfl) (pe_call G2 hr (by rfl) m2 k2 b2 .nil pass0 (pa_cons (pv 0) (pa_cons (pv 1) (pa_cons (pe_call G3 hr (by rfl) m3 k3 b3 .nil pass0 (pa_cons (pv 0) (pa_cons pe_int pa_nil))) pa_nil)))))
    (pss_cons (ps_set (i := 3) nd rfl (.inl rfl) (pe_call G4 hr (by rfl) m4 k4 b4 .nil pass0 (pa_cons (pv 0) (pa_cons (pv 1) (pa_cons
      (pe_lc (own := [("_law_name_here", 5), ("_law_inner", 6)]) (g := gTup K 2 (gCons (gName 5) (gCons (gName 6) gNil))) (tt := tYes) (by rfl) nd (pi_list (pv 2)) (blkOk_by (N := ["_law_digits_here", "_law_names_here", "_law_routines_here", "_law_body", "_law_k", "_law_name_here", "_law_inner"]) (sc := defScope s_l_small) (by decide +kernel))
        (fun _ _ _ _ _ => pg_tup (by rfl) (pgs_cons (pg_name (i := 5) nd rfl (.inl rfl)) (pgs_cons (pg_name (i := 6) nd rfl (.inl rfl)) pgs_nil))) (fun _ _ _ _ _ => pts_nil) (fun _ _ _ _ _ => pv 5))
      (pa_cons pe_int (pa_cons pe_int pa_nil)))))))
    (pss_cons (ps_for PassesOwn.never rfl (pi_range1 (by rfl) B.range (pa_cons pe_int pa_nil)) (pg_name (i := 4) nd rfl (.inl rfl))
      (pss_one (ps_if (pt_cmpR op_gt (pe_callB call_len_str (by rfl) B.len PySem.boot_len (pa_cons (pe_call G5 hr (by rfl) m5 k5 b5 .nil pass0 (pa_cons (pv 2) (pa_cons (pv 3) pa_nil))) pa_nil)) pe_int (nomark _))
        (pss_one (ps_set (i := 3) nd rfl (.inl rfl) (pe_slice sl_list (pv 3) po_none (po_some (pe_un un_neg pe_int))))) pss_nil)))
    (pss_mid (ps_if (pt_cmpR op_gt (pe_callB call_len_str (by rfl) B.len PySem.boot_len (pa_cons (pe_call G5 hr (by rfl) m5 k5 b5 .nil pass0 (pa_cons (pv 2) (pa_cons (pv 3) pa_nil))) pa_nil)) pe_int (nomark _))
        (pss_cons (ps_set (i := 2) nd rfl (.inl rfl) (pe_lst pa_nil)) (pss_one (ps_set (i := 3) nd rfl (.inl rfl) (pe_lst (pa_cons (pe_tup (pa_cons pe_str pa_nil)) pa_nil))))) pss_nil)
    (pss_one (ps_ret (pe_tup (pa_cons (pv 2) (pa_cons (pv 3) pa_nil)))))))))), ?_⟩
  have hD : ∀ x, x = d → mu (H x) = true := fun x e => by rw [e, hd]; rfl
  -- names
  refine ⟨_, rfl, d, z, 4, rfl, hd, by decide, fun ts z1 H1 t nt okt ndt k1' nt0 t1 u1 => ?_⟩
  have htd : t ≠ d := fun e => by rw [e, hd] at nt0; cases nt0
  have x1 : NmL K H1 d t ts := ⟨SqL.of t1, htd, fun x m => (okt x m).ok, by omega⟩
  have tne : ts ≠ [] := fun e => by rw [e] at nt; cases nt
  have hD1 : ∀ x, x = d → mu (H1 x) = true := fun x e => by rw [e, u1]; rfl
  -- routines
  refine ⟨_, rfl, _, rfl, _, rfl, d, z1, 4, rfl, u1, by decide, by decide, fun z2 c0 c00 c01 => ?_⟩
  have k2' : Kp (· = d) H1 (upd H1 d (.lst [.int z2])) := Kp.put rfl rfl
  have ec : [V.ref d, V.ref t, V.int c0] = [V.ref d, V.ref t, V.int ((c0.toNat : Nat) : Int)] := by
    rw [show ((c0.toNat : Nat) : Int) = c0 by omega]
  refine ⟨d, t, z2, ts, c0.toNat, ec, upd_same, x1.keep k2', tne, by omega, fun ra rs z3 H3 lr okr ndr k3' u3 d3 => ?_⟩
  have s3 : Kp (· = d) H1 H3 := k2'.trans k3'
  have hD3 : ∀ x, x = d → mu (H3 x) = true := fun x e => by rw [e, u3]; rfl
  have dr3 : Dp K H3 (.ref ra) (.list (rs.map dataR)) := Dp.up (nw_le _ _) _ _ d3
  obtain ⟨ra0, rv, er, hrS, hrA⟩ := dp_list dr3
  cases er
  have rl : rv.length = rs.length := by rw [all_len hrA, List.length_map]
  -- the body: the names of the routines
  refine ⟨_, rfl, _, rfl, _, rfl, ra, rfl, ⟨_, hrS⟩, fun D hDn => ?_⟩
  have hdD : d ≠ D := ne_of_none u3 hDn
  refine lc_list (K := K) (a := ra) (xs := rv) (fun i H4 => (∃ G : Hp, Same H3 G ∧ H4 = upd G D (.lst ((rs.take i).map fun r => V.str r.1)) ∧ G D = none)) ⟨H3, Same.refl _, rfl, hDn⟩ (fun i H4 _ hp => ?_) (fun i x H4 hx hp => ?_) (fun H4 hp => ?_)
  · obtain ⟨G, sG, rfl, nG⟩ := hp
    exact (same_new nG).seq (sG.seq hrS)
  · obtain ⟨G, sG, rfl, nG⟩ := hp
    obtain ⟨dat, hdat, hdx⟩ := all_get hrA hx
    obtain ⟨r, hr', rfl, hmem⟩ := rt_get hdat
    obtain ⟨p, u, us, rfl, hT, _⟩ := rtAt hdx
    have il : i < rs.length := (List.getElem?_eq_some_iff.mp hr').1
    refine ⟨p, _, rfl, Same.sqt (same_new nG) (Same.sqt sG hT), rfl, _, _, rfl, _, _, rfl, rfl, ?_⟩
    refine ⟨rfl, ?_⟩
    refine ⟨_, rfl, _, upd_same, sizes1 (by rw [List.length_map, List.length_take]; omega), G, sG, ?_, nG⟩
    rw [upd_upd, List.take_add_one, hr', List.map_append]
    rfl
  obtain ⟨G, sG, rfl, nG⟩ := hp
  rw [List.take_of_length_le (by omega)]
  have en : (rs.map fun r => V.str r.1) = (rs.map (·.1)).map V.str := by rw [List.map_map] <;> rfl
  rw [en]
  have k4' : Kp (· = d) H3 (upd G D (.lst ((rs.map (·.1)).map V.str))) := Kp.of (sG.trans (same_new nG))
  have u4 : (upd G D (.lst ((rs.map (·.1)).map V.str))) d = some (.lst [.int z3]) := by
    rw [upd_ne hdD]
    exact sG _ _ u3
  have y4 : NmL K (upd G D (.lst ((rs.map (·.1)).map V.str))) d D (rs.map (·.1)) := ⟨SqL.of upd_same, fun e => hdD e.symm, fun x m => by
    obtain ⟨r, hm, rfl⟩ := List.mem_map.mp m
    exact (okr r hm).1, by rw [List.length_map]; omega⟩
  refine ⟨d, t, D, z3, ts, rs.map (·.1), 2, 6, rfl, by decide, by decide, u4, x1.keep (s3.trans k4'), tne, y4, fun ba l z5 H5 l6 okl k5' u5 d5 => ?_⟩
  have s5 : Kp (· = d) H1 H5 := (s3.trans k4').trans k5'
  have sH5 : Kp (· = d) H H5 := k1'.trans s5
  have dr5 : Dp K H5 (.ref ra) (.list (rs.map dataR)) := Dp.up (nw_le _ _) _ _ (Dp.up (nw_fwd (k4'.trans k5') (fun x e => by rw [e]; show mu ((upd H1 d (.lst [.int z2])) d) = true; rw [upd_same]; rfl)) _ _ d3)
  have db5 : Dp K H5 (.ref ba) (.list (dataL l)) := Dp.up (nw_le _ _) _ _ d5
  have names3 : ∀ r ∈ rs, NameOk r.1 ∧ r.2.length ≤ 3 ∧ OkL 1 r.2 := fun r m => ⟨(okr r m).1, (okr r m).2.2⟩
  -- the body is made shorter
  obtain ⟨Pv, ePv⟩ : ∃ Pv : Nat → L2.St → Hp → Prop, Pv = fun i σ H2 => ∃ (b : Addr) (l : List S) (y4 y5 y6 : Option V), σ = [some (.ref d), some (.ref t), some (.ref ra), some (.ref b), y4, y5, y6] ∧ Same H5 H2 ∧ Dp K H2 (.ref b) (.list (dataL l)) ∧ l.length ≤ 6 ∧ OkL 2 l := ⟨_, rfl⟩
  refine ⟨8, rfl, by decide, by decide, for_range (n := 8) Pv (by rw [ePv]; exact ⟨ba, l, _, _, _, rfl, Same.refl _, db5, l6, okl⟩) (fun i σ H6 hi hp => ?_) (fun σ H6 hp => ?_)⟩
  · rw [ePv] at hp
    obtain ⟨b, l', y4', y5', y6', rfl, s6, d6, l6', okl'⟩ := hp
    have pt : Parts rs l' := ⟨by omega, names3, l6', okl'⟩
    refine ⟨_, rfl, _, rfl, ra, b, rs, l', rfl, Dp.up s6 _ _ dr5, d6, pt, fun H7 s7 => ⟨_, rfl, sizes (Nat.le_trans (text_len pt) (by decide)), _, _, rfl, rfl, _, rfl, ite2 (fun e => ?_) (fun e => ?_)⟩⟩
    · obtain ⟨b0, bv, eb, hbS, hbA⟩ := dp_list (Dp.up s7 _ _ d6)
      cases eb
      refine ⟨_, rfl, _, rfl, -1, rfl, b, bv, rfl, hbS, fun p hp => ?_⟩
      rw [cut_last, List.dropLast_eq_take]
      show Pv (i + 1) _ _
      rw [ePv]
      refine ⟨p, l'.dropLast, _, _, _, rfl, (s6.trans s7).trans (same_new hp), ?_, by rw [List.length_dropLast]; omega, fun s m => okl' s (List.dropLast_subset _ m)⟩
      refine .lst (SqL.of upd_same) (DpAll.up (same_new hp) _ _ ?_)
      have bl : bv.length = l'.length := by rw [all_len hbA, dataL_map, List.length_map]
      rw [List.dropLast_eq_take, dataL_map, List.map_take, ← dataL_map, ← bl]
      exact all_take _ hbA
    · show Pv (i + 1) _ _
      rw [ePv]
      exact ⟨b, l', _, _, _, rfl, s6.trans s7, Dp.up s7 _ _ d6, l6', okl'⟩
  · rw [ePv] at hp
    obtain ⟨b, l', y4', y5', y6', rfl, s6, d6, l6', okl'⟩ := hp
    have pt : Parts rs l' := ⟨by omega, names3, l6', okl'⟩
    refine ⟨fun σ H8 => ∃ (ra ba : Addr) (rs : List (Str × List S)) (l : List S) (y4 y5 y6 : Option V), σ = [some (.ref d), some (.ref t), some (.ref ra), some (.ref ba), y4, y5, y6] ∧ Kp (· = d) H H8 ∧ Good rs l ∧ Dp K H8 (.ref ra) (.list (rs.map dataR)) ∧ Dp K H8 (.ref ba) (.list (dataL l)), ?_, fun σ H8 hm => ?_⟩
    · refine ⟨_, rfl, _, rfl, ra, b, rs, l', rfl, Dp.up s6 _ _ dr5, d6, pt, fun H7 s7 => ⟨_, rfl, sizes (Nat.le_trans (text_len pt) (by decide)), _, _, rfl, rfl, _, rfl, ite2 (fun e => ?_) (fun e => ?_)⟩⟩
      · refine ⟨Nat.zero_le _, fun p1 n1 => ⟨sizes (by show 1 ≤ 100000; decide), fun p2 n2 => ⟨sizes (by show 1 ≤ 100000; decide), fun p3 n3 => ?_⟩⟩⟩
        have g1 : Same H5 (upd (upd (upd H7 p1 (.lst [])) p2 (.tup [.str "release"])) p3 (.lst [.ref p2])) := (((s6.trans s7).trans (same_new n1)).trans (same_new n2)).trans (same_new n3)
        refine ⟨p1, p3, [], [.pl .release], _, _, _, rfl, sH5.trans (Kp.of g1), ⟨Nat.zero_le _, (fun _ m => nomatch m), List.nodup_nil, by decide, fun s m => ?_⟩, ?_, ?_⟩
        · rw [List.mem_singleton.mp m]
          exact trivial
        · exact .lst (SqL.of (same_new n3 _ _ (same_new n2 _ _ upd_same))) .nil
        · refine .lst (SqL.of upd_same) ?_
          rw [dataL_cons, dataL_nil, data_pl]
          exact .cons (.tup (SqT.of (same_new n3 _ _ upd_same)) (.cons (.str "release") .nil)) .nil
      · exact ⟨ra, b, rs, l', _, _, _, rfl, sH5.trans (Kp.of (s6.trans s7)), ⟨by omega, okr, ndr, l6', okl'⟩, Dp.up (s6.trans s7) _ _ dr5, Dp.up s7 _ _ d6⟩
    · obtain ⟨ra, ba, rs, l, y4, y5, y6, rfl, k8, g, e1, e2⟩ := hm
      refine ⟨_, rfl, _, rfl, sizes (by show 2 ≤ 100000; decide), fun p hp => ?_⟩
      exact q p ra ba rs l _ g (k8.trans (Kp.new hp)) upd_same (Dp.up (same_new hp) _ _ e1) (Dp.up (same_new hp) _ _ e2)
end
end K53

/-! KF -/
/-! the words: is_name, read_count, split_line, split_words -/
namespace K53
open PySem PySem.Spec PyProof.Rows L2
theorem letter_in {c : Nat} (h : Letter c) : c ∈ ("abcdefghijklmnopqrstuvwxyz" : Str).cps.toList := by
  obtain ⟨h1, h2⟩ := h
  have all : ∀ i : Fin 26, ((97 + i.val) ∈ ("abcdefghijklmnopqrstuvwxyz" : Str).cps.toList) := by decide +kernel
  have := all ⟨c - 97, by omega⟩
  rwa [show 97 + (c - 97) = c by omega] at this
theorem digit_in {c : Nat} (h : 48 ≤ c ∧ c ≤ 57) : c ∈ ("0123456789" : Str).cps.toList := by
  obtain ⟨h1, h2⟩ := h
  have all : ∀ i : Fin 10, ((48 + i.val) ∈ ("0123456789" : Str).cps.toList) := by decide +kernel
  have := all ⟨c - 48, by omega⟩
  rwa [show 48 + (c - 48) = c by omega] at this
/-- for c in a text -/
theorem for_str {x : Str} {g : TG} {tb : TS} {D : Ends} {σ : L2.St} {H : Hp} (Pv : Nat → L2.St → Hp → Prop) (h0 : Pv 0 σ H)
    (hs : ∀ i c σ H, (cs x)[i]? = some c → Pv i σ H → g (.str ⟨#[c]⟩) σ H fun σ2 H2 => tb { D with nx := Pv (i + 1), ct := Pv (i + 1), bk := D.nx } σ2 H2) (hd : ∀ σ H, Pv (cs x).length σ H → D.nx σ H) :
    ∃ W : Nat → Nat → L2.St → Hp → Prop, (∃ m, W 0 m σ H) ∧ ∀ i m σ H, W i m σ H →
      ((Its x).stop i H ∧ D.nx σ H) ∨ ((Its x).go i H ∧ ∃ N : L2.St → Hp → Prop, (∀ σ' H', N σ' H' → ∃ m', m' < m ∧ W (i + 1) m' σ' H') ∧ ∀ v H', (Its x).yld i H v H' → g v σ H' fun σ2 H2 => tb { D with nx := N, ct := N, bk := D.nx } σ2 H2) := by
  have el : (cs x).length = x.cps.size := Array.length_toList
  refine ⟨fun i m σ H => m = x.cps.size - i ∧ i ≤ x.cps.size ∧ Pv i σ H, ⟨_, rfl, Nat.zero_le _, h0⟩, ?_⟩
  rintro i m σ H ⟨rfl, hi, p⟩
  by_cases hlt : i < x.cps.size
  · refine .inr ⟨hlt, Pv (i + 1), fun σ' H' p' => ⟨x.cps.size - (i + 1), by omega, rfl, hlt, p'⟩, fun v H' y => ?_⟩
    obtain ⟨e, c, ec, ev⟩ := y
    subst e ev
    exact hs i c σ _ (by simpa [cs] using ec) p
  · have e : i = x.cps.size := by omega
    subst e
    exact .inl ⟨Nat.le_refl _, hd σ H (by rw [el]; exact p)⟩
/-- for i, c in enumerate(a text) -/
theorem for_es {x : Str} {g : TG} {tb : TS} {D : Ends} {σ : L2.St} {H : Hp} (Pv : Nat → L2.St → Hp → Prop) (h0 : Pv 0 σ H)
    (hs : ∀ i c T σ H, (cs x)[i]? = some c → H T = none → Pv i σ H → g (.ref T) σ (upd H T (.tup [.int (i : Nat), .str ⟨#[c]⟩])) fun σ2 H2 => tb { D with nx := Pv (i + 1), ct := Pv (i + 1), bk := D.nx } σ2 H2) (hd : ∀ σ H, Pv (cs x).length σ H → D.nx σ H) :
    ∃ W : Nat → Nat → L2.St → Hp → Prop, (∃ m, W 0 m σ H) ∧ ∀ i m σ H, W i m σ H →
      ((Ites x).stop i H ∧ D.nx σ H) ∨ ((Ites x).go i H ∧ ∃ N : L2.St → Hp → Prop, (∀ σ' H', N σ' H' → ∃ m', m' < m ∧ W (i + 1) m' σ' H') ∧ ∀ v H', (Ites x).yld i H v H' → g v σ H' fun σ2 H2 => tb { D with nx := N, ct := N, bk := D.nx } σ2 H2) := by
  have el : (cs x).length = x.cps.size := Array.length_toList
  refine ⟨fun i m σ H => m = x.cps.size - i ∧ i ≤ x.cps.size ∧ Pv i σ H, ⟨_, rfl, Nat.zero_le _, h0⟩, ?_⟩
  rintro i m σ H ⟨rfl, hi, p⟩
  by_cases hlt : i < x.cps.size
  · refine .inr ⟨hlt, Pv (i + 1), fun σ' H' p' => ⟨x.cps.size - (i + 1), by omega, rfl, hlt, p'⟩, fun v H' y => ?_⟩
    obtain ⟨T, c, ec, ev, hT, e⟩ := y
    subst e ev
    exact hs i c T σ _ (by simpa [cs] using ec) hT p
  · have e : i = x.cps.size := by omega
    subst e
    exact .inl ⟨Nat.le_refl _, hd σ H (by rw [el]; exact p)⟩
/-- for i, x in enumerate(a list, start=k) -/
theorem for_ek {K : PySem.W.Frag} {a : Addr} {xs : List V} {k : Int} {g : TG} {tb : TS} {D : Ends} {σ : L2.St} {H : Hp} (Pv : Nat → L2.St → Hp → Prop) (h0 : Pv 0 σ H) (hl : ∀ i σ H, i ≤ xs.length → Pv i σ H → SqL K H a xs)
    (hs : ∀ i x T σ H, xs[i]? = some x → H T = none → Pv i σ H → g (.ref T) σ (upd H T (.tup [.int (k + (i : Nat)), x])) fun σ2 H2 => tb { D with nx := Pv (i + 1), ct := Pv (i + 1), bk := D.nx } σ2 H2) (hd : ∀ σ H, Pv xs.length σ H → D.nx σ H) :
    ∃ W : Nat → Nat → L2.St → Hp → Prop, (∃ m, W 0 m σ H) ∧ ∀ i m σ H, W i m σ H →
      ((Itek K a k).stop i H ∧ D.nx σ H) ∨ ((Itek K a k).go i H ∧ ∃ N : L2.St → Hp → Prop, (∀ σ' H', N σ' H' → ∃ m', m' < m ∧ W (i + 1) m' σ' H') ∧ ∀ v H', (Itek K a k).yld i H v H' → g v σ H' fun σ2 H2 => tb { D with nx := N, ct := N, bk := D.nx } σ2 H2) := by
  refine ⟨fun i m σ H => m = xs.length - i ∧ i ≤ xs.length ∧ Pv i σ H, ⟨_, rfl, Nat.zero_le _, h0⟩, ?_⟩
  rintro i m σ H ⟨rfl, hi, p⟩
  have q := hl i σ H hi p
  by_cases hlt : i < xs.length
  · refine .inr ⟨⟨xs, xs[i], q, by simp [hlt]⟩, Pv (i + 1), fun σ' H' p' => ⟨xs.length - (i + 1), by omega, rfl, hlt, p'⟩, fun v H' y => ?_⟩
    obtain ⟨T, x, ev, hT, e, hx⟩ := y
    subst e ev
    exact hs i x T σ _ (hx xs q) hT p
  · have e : i = xs.length := by omega
    subst e
    exact .inl ⟨⟨xs, q, Nat.le_refl _⟩, hd σ H p⟩
/-- the module's names of values -/
structure Gb (K : PySem.W.Frag) (mg : Str → Option Value) : Prop where
  kw : ∃ a : Addr, mg "KEYWORDS" = some (.ref a) ∧ ∀ H, SqT K H a (kws.map V.str)
  most : ∃ u, mg "MOST_LETTERS" = some u ∧ RelV (.int 20) u
  rts : ∃ u, mg "MOST_ROUTINES" = some u ∧ RelV (.int 12) u
  brs : ∃ u, mg "MOST_BRACES" = some u ∧ RelV (.int 8) u
  let_ : ∃ u, mg "LETTERS" = some u ∧ RelV (.str "abcdefghijklmnopqrstuvwxyz") u
  dig : ∃ u, mg "DIGITS" = some u ∧ RelV (.str "0123456789") u
section
variable {P : Program} {w : World} {K : PySem.W.Frag} {mg : Str → Option Value} {base : Heap}
/-! ### is_name -/
def spIsName : Sp := fun vs H Q _ => ∃ x, vs = [.str x] ∧ NameOk x ∧ Q (.bl true) H
theorem ok_is_name (B : Bi mg) (G : Gb K mg) {f : Addr} {fd : FuncData} (A : At K mg d_is_name "is_name" f fd) : Cal P w K mg base "is_name" ["word"] 1 spIsName := by
  refine ⟨f, fd, A.F.ok sc_is_name (fun vs H Q E h => ?_) (fun cdv A' outer s H vs Q E hr h => ?_), A.m, A.F.kp, A.F.bindsN fun _ _ _ _ _ _ us hl => match us, hl with | [_], _ => rfl⟩
  · obtain ⟨x, rfl, _⟩ := h
    rfl
  obtain ⟨x, rfl, hx, q⟩ := h
  obtain ⟨ka, mk, sk⟩ := G.kw
  obtain ⟨u1, mm, rm⟩ := G.most
  obtain ⟨u2, ml, rl⟩ := G.let_
  obtain ⟨u3, md, rd⟩ := G.dig
  refine ⟨_, PSs.nox (pss_cons (ps_if (PW.pt (pw_or (pt_not (pt_chain op_le op_le pe_int (pe_callB call_len_str (by rfl) B.len PySem.boot_len (pa_cons (pv 0) pa_nil)) (pe_glob (by rfl) mm rm)))
      (pw_or (pt_cmpR op_in_seq (pv 0) (pe_glob (v := .ref ka) (by rfl) mk rfl) (by rfl)) (pw_or1 (pt_cmpR op_notIn_sign (pe_ix ix_str (pv 0) pe_int (fun _ _ => rfl)) (pe_glob (by rfl) ml rl) (by rfl))))))
      (pss_one (ps_ret pe_bl)) pss_nil)
    (pss_cons (ps_for PassesOwn.never rfl (pi_str (pv 0)) (pg_name (i := 1) sc_is_name.nd rfl (.inl rfl))
      (pss_one (ps_if (PW.pt (pw_and (pt_cmpR op_notIn_sign (pv 1) (pe_glob (by rfl) ml rl) (by rfl)) (pw_and (pt_cmpR op_notIn_sign (pv 1) (pe_glob (by rfl) md rd) (by rfl)) (pw_and1 (pt_cmpR op_ne (pv 1) pe_str (nomark _))))))
        (pss_one (ps_ret pe_bl)) pss_nil)))
    (pss_one (ps_ret pe_bl)))), ?_⟩
  have lx := hx.len
  obtain ⟨c, r, ex, lc, sr, hr'⟩ := hx.ex
  have hz : x.length ≤ sizeLine := sizes (by omega)
  have sz : x.cps.size = x.length := rfl
  refine ⟨_, rfl, _, rfl, hz, _, _, rfl, rfl, _, rfl, ?_⟩
  rw [if_pos (decide_eq_true (show (1 : Int) ≤ (x.length : Int) by omega))]
  refine ⟨_, _, rfl, rfl, _, rfl, ?_⟩
  rw [decide_eq_true (show (x.length : Int) ≤ 20 by omega)]
  refine iteF ⟨_, rfl, ka, _, rfl, .inr (sk _), rfl, flat_strs _, _, rfl, ?_⟩
  rw [show (if (false : Bool) = true then !inV (V.str x) (kws.map V.str) else inV (V.str x) (kws.map V.str)) = inV (V.str x) (kws.map V.str) from rfl, inV_str, decide_eq_false hx.nk]
  refine iteF ⟨_, rfl, x, 0, c, rfl, rfl, hz, atI_nat (j := 0) (by show (cs x)[0]? = _; rw [ex]; rfl), _, _, rfl, rfl, _, rfl, ?_⟩
  rw [decide_eq_true (letter_in lc)]
  refine iteF ⟨_, rfl, x, rfl, for_str (x := x) (fun i σ H1 => H1 = H ∧ ∃ y, σ = [some (.str x), y]) ⟨rfl, _, rfl⟩ (fun i c σ H1 hi hp => ?_) (fun σ H1 hp => ?_)⟩
  · obtain ⟨rfl, y, rfl⟩ := hp
    have hs := hx.signs c (List.mem_of_getElem? hi)
    have one : cs (⟨#[c]⟩ : Str) = [c] := rfl
    rcases hs with hs | hs | hs
    · refine ⟨_, rfl, c, _, rfl, rfl, _, rfl, ?_⟩
      rw [decide_eq_true (letter_in hs)]
      exact iteF ⟨rfl, _, rfl⟩
    · refine ⟨_, rfl, c, _, rfl, rfl, _, rfl, ite2 (fun _ => ?_) (fun _ => iteF ⟨rfl, _, rfl⟩)⟩
      refine ⟨_, rfl, c, _, rfl, rfl, _, rfl, ?_⟩
      rw [decide_eq_true (digit_in hs)]
      exact iteF (iteF ⟨rfl, _, rfl⟩)
    · refine ⟨_, rfl, c, _, rfl, rfl, _, rfl, ite2 (fun _ => ?_) (fun _ => iteF ⟨rfl, _, rfl⟩)⟩
      refine ⟨_, rfl, c, _, rfl, rfl, _, rfl, ite2 (fun _ => ?_) (fun _ => iteF ⟨rfl, _, rfl⟩)⟩
      have e9 : (⟨#[c]⟩ : Str) = "_" := sx (by rw [hs]; decide +kernel)
      refine ⟨_, rfl, rfl, _, rfl, ?_⟩
      rw [decide_eq_true (congrArg V.str e9)]
      exact iteF ⟨rfl, _, rfl⟩
  · obtain ⟨rfl, y, rfl⟩ := hp
    exact q
/-! ### read_count -/
def numS (k : Nat) : Str := (toString (k : Int) : Str)
theorem num_sign {k : Nat} (h1 : 1 ≤ k) (h2 : k ≤ 3) : cs (numS k) = [48 + k] ∧ PySem.intText? (numS k) = some (k : Int) ∧ numS k = ⟨#[48 + k]⟩ := by
  rcases num_cases h1 h2 with rfl | rfl | rfl <;> exact ⟨by decide +kernel, by decide +kernel, by decide +kernel⟩
def spCount : Sp := fun vs H Q _ => ∃ k : Nat, vs = [.str (numS k)] ∧ 1 ≤ k ∧ k ≤ 3 ∧ Q (.int (k : Int)) H
theorem ok_count (B : Bi mg) (G : Gb K mg) {f : Addr} {fd : FuncData} (A : At K mg d_read_count "read_count" f fd) : Cal P w K mg base "read_count" ["word"] 1 spCount := by
  refine ⟨f, fd, A.F.ok sc_read_count (fun vs H Q E h => ?_) (fun cdv A' outer s H vs Q E hr h => ?_), A.m, A.F.kp, A.F.bindsN fun _ _ _ _ _ _ us hl => match us, hl with | [_], _ => rfl⟩
  · obtain ⟨x, rfl, _⟩ := h
    rfl
  obtain ⟨k, rfl, k1, k3, q⟩ := h
  obtain ⟨u3, md, rd⟩ := G.dig
  obtain ⟨e1, e2, e3⟩ := num_sign k1 k3
  refine ⟨_, PSs.nox (pss_cons (ps_if (PW.pt (pw_or (pt_not (pt_chain op_le op_le pe_int (pe_callB call_len_str (by rfl) B.len PySem.boot_len (pa_cons (pv 0) pa_nil)) pe_int))
      (pw_or1 (pt_cmpR op_eq (pe_ix ix_str (pv 0) pe_int (fun _ _ => rfl)) pe_str (nomark _)))))
      (pss_one (ps_ret pe_non)) pss_nil)
    (pss_cons (ps_for PassesOwn.never rfl (pi_str (pv 0)) (pg_name (i := 1) sc_read_count.nd rfl (.inl rfl))
      (pss_one (ps_if (pt_cmpR op_notIn_sign (pv 1) (pe_glob (by rfl) md rd) (by rfl)) (pss_one (ps_ret pe_non)) pss_nil)))
    (pss_one (ps_ret (pe_callTy call_int_str (by rfl) B.int bt_int (pa_cons (pv 0) pa_nil)))))), ?_⟩
  generalize hx : numS k = x at *
  have lx : x.length = 1 := by rw [len_cs, e1]; rfl
  have hz : x.length ≤ sizeLine := sizes (by omega)
  refine ⟨_, rfl, _, rfl, hz, _, _, rfl, rfl, _, rfl, ?_⟩
  rw [lx, if_pos (decide_eq_true (show (1 : Int) ≤ ((1 : Nat) : Int) by omega))]
  refine ⟨_, _, rfl, rfl, _, rfl, ?_⟩
  rw [decide_eq_true (show ((1 : Nat) : Int) ≤ 2 by omega)]
  refine iteF ⟨_, rfl, x, 0, 48 + k, rfl, rfl, hz, atI_nat (j := 0) (by show (cs x)[0]? = _; rw [e1]; rfl), rfl, _, rfl, ?_⟩
  rw [decide_eq_false (fun z : V.str (⟨#[48 + k]⟩ : Str) = V.str "0" => by
    have z2 := congrArg cs (V.str.inj z)
    have z3 : cs ("0" : Str) = [48] := by decide +kernel
    rw [z3] at z2
    have z4 : [48 + k] = [48] := z2
    have := (List.cons.inj z4).1
    omega)]
  refine iteF ⟨_, rfl, x, rfl, for_str (x := x) (fun i σ H1 => H1 = H ∧ ∃ y, σ = [some (.str x), y]) ⟨rfl, _, rfl⟩ (fun i c σ H1 hi hp => ?_) (fun σ H1 hp => ?_)⟩
  · obtain ⟨rfl, y, rfl⟩ := hp
    rw [e1] at hi
    have hc : c = 48 + k := by
      have := List.mem_of_getElem? hi
      simpa using this
    refine ⟨_, rfl, c, _, rfl, rfl, _, rfl, ?_⟩
    rw [decide_eq_true (digit_in (show 48 ≤ c ∧ c ≤ 57 by omega))]
    exact iteF ⟨rfl, _, rfl⟩
  · obtain ⟨rfl, y, rfl⟩ := hp
    exact ⟨_, rfl, x, (k : Int), rfl, e2, by omega, q⟩
end
end K53

/-! KG -/
/-! split_line -/
namespace K53
open PySem PySem.Spec PyProof.Rows L2
/-- a word with its place -/
def WdAt (H : Hp) (v : V) (x : Str) : Prop := ∃ (p : Addr) (l c : Int), v = .ref p ∧ H p = some (.tup [.str x, .int l, .int c])
inductive Wl (H : Hp) : List V → List Str → Prop where
  | nil : Wl H [] []
  | cons {v : V} {x : Str} {vs : List V} {xs : List Str} (h : WdAt H v x) (t : Wl H vs xs) : Wl H (v :: vs) (x :: xs)
section
variable {H H' : Hp} {vs us : List V} {xs ys : List Str}
theorem WdAt.up {v : V} {x : Str} (e : Same H H') (h : WdAt H v x) : WdAt H' v x := let ⟨p, l, c, a, b⟩ := h; ⟨p, l, c, a, e _ _ b⟩
theorem Wl.up (e : Same H H') (h : Wl H vs xs) : Wl H' vs xs := by
  induction h with
  | nil => exact .nil
  | cons h _ ih => exact .cons (h.up e) ih
theorem Wl.app (h : Wl H vs xs) (k : Wl H us ys) : Wl H (vs ++ us) (xs ++ ys) := by
  induction h with
  | nil => exact k
  | cons h _ ih => exact .cons h ih
theorem Wl.len (h : Wl H vs xs) : vs.length = xs.length := by
  induction h with
  | nil => rfl
  | cons _ _ ih => rw [List.length_cons, List.length_cons, ih]
theorem Wl.get (h : Wl H vs xs) : ∀ {i : Nat} {x : Str}, xs[i]? = some x → ∃ v, vs[i]? = some v ∧ WdAt H v x := by
  induction h with
  | nil => intro i x e; simp at e
  | @cons v y vs ys h _ ih =>
    intro i x e
    cases i with
    | zero =>
      have e' : y = x := by simpa using e
      exact ⟨v, rfl, e' ▸ h⟩
    | succ i => exact ih (by simpa using e)
end
theorem wl_put {H : Hp} {p o : Addr} {us vs : List V} {xs : List Str} {t u : HO} (hp : H p = none) (ho : H o = some (.lst us)) (h : Wl H vs xs) : Wl (upd (upd H p t) o u) vs xs := by
  induction h with
  | nil => exact .nil
  | cons a _ ih =>
    obtain ⟨b, l, d, e1, e2⟩ := a
    refine .cons ⟨b, l, d, e1, ?_⟩ ih
    rw [upd_ne (fun z : b = o => by rw [z, ho] at e2; cases e2)]
    exact same_new hp _ _ e2
theorem wl_set {H : Hp} {o : Addr} {us vs : List V} {xs : List Str} {u : HO} (ho : H o = some (.lst us)) (h : Wl H vs xs) : Wl (upd H o u) vs xs := by
  induction h with
  | nil => exact .nil
  | cons a _ ih =>
    obtain ⟨b, l, d, e1, e2⟩ := a
    refine .cons ⟨b, l, d, e1, ?_⟩ ih
    rw [upd_ne (fun z : b = o => by rw [z, ho] at e2; cases e2)]
    exact e2
theorem special_in (c : Nat) : decide (c ∈ (" \t{}" : Str).cps.toList) = special c := by
  have e : (" \t{}" : Str).cps.toList = [32, 9, 123, 125] := by decide +kernel
  rw [e]
  unfold special
  rw [Bool.eq_iff_iff]
  simp only [decide_eq_true_eq, Bool.or_eq_true, beq_iff_eq, List.mem_cons, List.not_mem_nil, or_false, or_assoc]
theorem one_eq (c d : Nat) (y : Str) (hy : y = ⟨#[d]⟩) : decide (V.str (⟨#[c]⟩ : Str) = V.str y) = (c == d) := by
  rw [Bool.eq_iff_iff, decide_eq_true_eq, beq_iff_eq, hy]
  constructor
  · intro h
    have h2 : [c] = [d] := congrArg cs (V.str.inj h)
    exact (List.cons.inj h2).1
  · intro h
    rw [h]
/-- how far the words are -/
structure Lx (x : Str) (i : Nat) (ws : List Str) (cur : Str) : Prop where
  e : ws ++ lexGo cur ((cs x ++ [32]).drop i) = lexLine x
  lw : ws.length ≤ 2 * i
  lc : cur.length ≤ i
theorem Lx.start (x : Str) : Lx x 0 [] Str.empty := ⟨rfl, Nat.zero_le _, Nat.zero_le _⟩
section
variable {x : Str} {i : Nat} {ws : List Str} {cur : Str} {c : Nat}
theorem Lx.plain (h : Lx x i ws cur) (hc : (cs x ++ [32])[i]? = some c) (hs : special c = false) : Lx x (i + 1) ws (cur ++ ⟨#[c]⟩) := by
  obtain ⟨hi, e⟩ := List.getElem?_eq_some_iff.mp hc
  refine ⟨?_, by have := h.lw; omega, by have := h.lc; rw [len_app]; show cur.length + 1 ≤ _; omega⟩
  have := h.e
  rw [List.drop_eq_getElem_cons hi, e, lexGo, hs] at this
  exact this
theorem Lx.sep (h : Lx x i ws cur) (hc : (cs x ++ [32])[i]? = some c) (hs : special c = true) : Lx x (i + 1) (ws ++ ((if cur = Str.empty then [] else [cur]) ++ (if brace c then [⟨#[c]⟩] else []))) Str.empty := by
  obtain ⟨hi, e⟩ := List.getElem?_eq_some_iff.mp hc
  refine ⟨?_, ?_, Nat.zero_le _⟩
  · have := h.e
    rw [List.drop_eq_getElem_cons hi, e, lexGo, hs, if_pos rfl] at this
    rw [List.append_assoc, List.append_assoc]
    exact this
  · have := h.lw
    rw [List.length_append, List.length_append]
    split <;> split <;> simp <;> omega
end
section
variable {P : Program} {w : World} {K : PySem.W.Frag} {mg : Str → Option Value} {base : Heap}
def spSplitL : Sp := fun vs H Q _ => ∃ (x : Str) (n : Int), vs = [.str x, .int n] ∧ x.length ≤ 100 ∧
  ∀ (r : Addr) (us : List V) (H' : Hp), Same H H' → H r = none → H' r = some (.lst us) → Wl H' us (lexLine x) → us.length ≤ 300 → Q (.ref r) H'
theorem ok_split_line (B : Bi mg) {f : Addr} {fd : FuncData} (A : At K mg d_split_line "split_line" f fd) : Cal P w K mg base "split_line" ["text", "line"] 1 spSplitL := by
  refine ⟨f, fd, A.F.ok sc_split_line (fun vs H Q E h => ?_) (fun cdv A' outer s H vs Q E hr h => ?_), A.m, A.F.kp, A.F.bindsN fun _ _ _ _ _ _ us hl => match us, hl with | [_, _], _ => rfl⟩
  · obtain ⟨x, n, rfl, _⟩ := h
    rfl
  obtain ⟨x, n, rfl, lx, q⟩ := h
  have nd := sc_split_line.nd
  refine ⟨_, PSs.nox (pss_cons (ps_set (i := 2) nd rfl (.inl rfl) (pe_lst pa_nil))
    (pss_cons (ps_set (i := 3) nd rfl (.inl rfl) pe_str)
    (pss_cons (ps_for PassesOwn.never rfl (pi_enumS (by rfl) B.enum (pa_cons (pe_op op_add_str (pv 0) pe_str) pa_nil)) (pg_tup (by rfl) (pgs_cons (pg_name (i := 4) nd rfl (.inl rfl)) (pgs_cons (pg_name (i := 5) nd rfl (.inl rfl)) pgs_nil)))
      (pss_cons (ps_if (pt_cmpR op_notIn_sign (pv 5) pe_str (by rfl)) (pss_cons (ps_set (i := 3) nd rfl (.inl rfl) (pe_op op_add_str (pv 3) (pv 5))) (pss_one ps_continue)) pss_nil)
      (pss_mid (ps_if (pt_cmpR op_ne (pv 3) pe_str (nomark _))
        (pss_cons (ps_expr (pe_bm PySem.F.plainAttrs_list PySem.F.slot_list_append PySem.F.type_list_append mt_append (pv 2) (pa_cons (pe_tup (pa_cons (pv 3) (pa_cons (pv 1) (pa_cons (pe_op op_sub (pe_op op_add (pv 4) pe_int) (pe_callB call_len_str (by rfl) B.len PySem.boot_len (pa_cons (pv 3) pa_nil))) pa_nil)))) pa_nil)))
        (pss_one (ps_set (i := 3) nd rfl (.inl rfl) pe_str))) pss_nil)
      (pss_one (ps_if (PW.pt (pw_or (pt_cmpR op_eq (pv 5) pe_str (nomark _)) (pw_or1 (pt_cmpR op_eq (pv 5) pe_str (nomark _)))))
        (pss_one (ps_expr (pe_bm PySem.F.plainAttrs_list PySem.F.slot_list_append PySem.F.type_list_append mt_append (pv 2) (pa_cons (pe_tup (pa_cons (pv 5) (pa_cons (pv 1) (pa_cons (pe_op op_add (pv 4) pe_int) pa_nil)))) pa_nil)))) pss_nil)))))
    (pss_one (ps_ret (pv 2)))))), ?_⟩
  have lsp : (" " : Str).length = 1 := ln_sp
  refine ⟨Nat.zero_le _, fun o ho => ?_⟩
  have et : cs (x ++ " ") = cs x ++ [32] := by rw [cs_app, cs_sp]
  have ll : (cs (x ++ " ")).length = x.length + 1 := by rw [et, List.length_append, ← len_cs]; rfl
  refine ⟨_, rfl, _, _, rfl, rfl, ?_, x ++ " ", rfl, ?_⟩
  · show x.length + (" " : Str).length ≤ sizeLine
    rw [lsp]
    exact sizes (by omega)
  obtain ⟨Pv, ePv⟩ : ∃ Pv : Nat → L2.St → Hp → Prop, Pv = fun i σ H1 => ∃ (ws : List Str) (cur : Str) (us : List V) (y4 y5 : Option V), Lx x i ws cur ∧ σ = [some (.str x), some (.int n), some (.ref o), some (.str cur), y4, y5] ∧
      (∀ b u, H b = some u → H1 b = some u) ∧ H1 o = some (.lst us) ∧ Wl H1 us ws := ⟨_, rfl⟩
  refine for_es (x := x ++ " ") Pv (by rw [ePv]; exact ⟨[], Str.empty, [], _, _, Lx.start x, rfl, same_new ho, upd_same, .nil⟩) (fun i c T σ H1 hc hT hp => ?_) (fun σ H1 hp => ?_)
  · rw [ePv] at hp
    obtain ⟨ws, cur, us, y4, y5, lxi, rfl, s1, o1, wl⟩ := hp
    rw [et] at hc
    have hi : i < x.length + 1 := by
      have := (List.getElem?_eq_some_iff.mp hc).1
      rw [← et, ll] at this
      exact this
    have lw := lxi.lw
    have lc := lxi.lc
    have ul := wl.len
    refine ⟨T, _, rfl, SqT.of upd_same, rfl, _, _, rfl, _, _, rfl, rfl, ?_⟩
    have s2 : Same H1 (upd H1 T (.tup [.int (i : Nat), .str ⟨#[c]⟩])) := same_new hT
    generalize upd H1 T (.tup [.int (i : Nat), .str ⟨#[c]⟩]) = H2 at s2
    have o2 := s2 _ _ o1
    have wl2 := wl.up s2
    have s02 : Same H H2 := Same.trans s1 s2
    refine ⟨_, rfl, c, _, rfl, rfl, _, rfl, ?_⟩
    rw [special_in]
    cases hs : special c with
    | false =>
      refine iteT ⟨_, rfl, _, rfl, _, _, rfl, rfl, ?_, ?_⟩
      · show cur.length + 1 ≤ sizeLine
        exact sizes (by omega)
      · show Pv (i + 1) _ _
        rw [ePv]
        exact ⟨ws, cur ++ ⟨#[c]⟩, us, _, _, lxi.plain hc hs, rfl, s02, o2, wl2⟩
    | true =>
      refine iteF ?_
      have nx := lxi.sep hc hs
      refine ⟨fun σ H3 => ∃ us, σ = [some (.str x), some (.int n), some (.ref o), some (.str Str.empty), some (.int (i : Nat)), some (.str ⟨#[c]⟩)] ∧ Same H H3 ∧ H3 o = some (.lst us) ∧ Wl H3 us (ws ++ (if cur = Str.empty then [] else [cur])) ∧ us.length ≤ 2 * i + 1, ?_, fun σ H3 hm => ?_⟩
      · refine ⟨_, rfl, rfl, _, rfl, ite2 (fun e => ?_) (fun e => ?_)⟩
        · have ne : cur ≠ Str.empty := fun z => by
            rw [z] at e
            exact absurd e (by decide)
          refine ⟨_, rfl, .inl ⟨rfl, _, SqL.of o2⟩, _, rfl, _, rfl, _, rfl, _, _, rfl, rfl, _, rfl, _, rfl, sizes (by omega), _, _, rfl, rfl, sizes (by show 3 ≤ 100000; decide), fun p hp => ?_⟩
          have op : o ≠ p := ne_of_none o2 hp
          refine ⟨o, us, _, rfl, rfl, by rw [upd_ne op]; exact o2, sizes1 (by omega), ?_⟩
          refine ⟨us ++ [.ref p], rfl, ?_, upd_same, ?_, by rw [List.length_append]; show us.length + 1 ≤ _; omega⟩
          · intro b u hb
            rw [upd_ne (ne_of_none hb ho)]
            exact same_new hp _ _ (s02 _ _ hb)
          · rw [if_neg ne]
            exact (wl_put hp o2 wl2).app (.cons ⟨p, _, _, rfl, by rw [upd_ne (Ne.symm op), upd_same]⟩ .nil)
        · have ee : cur = Str.empty := by
            have e1 : decide (V.str cur = V.str "") = true := by simpa using e
            exact V.str.inj (of_decide_eq_true e1)
          rw [ee]
          exact ⟨us, rfl, s02, o2, by rw [if_pos rfl, List.append_nil]; exact wl2, by omega⟩
      · obtain ⟨us3, rfl, s3, o3, wl3, ul3⟩ := hm
        have nx2 := nx
        rw [← List.append_assoc] at nx2
        have fin : brace c = false → Pv (i + 1) [some (.str x), some (.int n), some (.ref o), some (.str Str.empty), some (.int (i : Nat)), some (.str ⟨#[c]⟩)] H3 := fun hb => by
          rw [ePv]
          rw [hb] at nx2
          exact ⟨_, _, us3, _, _, nx2, rfl, s3, o3, by rw [if_neg Bool.false_ne_true, List.append_nil]; exact wl3⟩
        have put : brace c = true → ∀ p, H3 p = none → (upd H3 p (.tup [.str ⟨#[c]⟩, .int n, .int ((i : Int) + 1)])) o = some (.lst us3) ∧ us3.length < sizeLine ∧
            Pv (i + 1) [some (.str x), some (.int n), some (.ref o), some (.str Str.empty), some (.int (i : Nat)), some (.str ⟨#[c]⟩)] (upd (upd H3 p (.tup [.str ⟨#[c]⟩, .int n, .int ((i : Int) + 1)])) o (.lst (us3 ++ [.ref p]))) := fun hb p hp => by
          have op : o ≠ p := ne_of_none o3 hp
          refine ⟨by rw [upd_ne op]; exact o3, sizes1 (by omega), ?_⟩
          rw [ePv]
          rw [hb] at nx2
          refine ⟨_, _, us3 ++ [.ref p], _, _, nx2, rfl, ?_, upd_same, ?_⟩
          · intro b u hb
            rw [upd_ne (ne_of_none hb ho)]
            exact same_new hp _ _ (s3 _ _ hb)
          · rw [if_pos rfl]
            exact (wl_put hp o3 wl3).app (.cons ⟨p, _, _, rfl, by rw [upd_ne (Ne.symm op), upd_same]⟩ .nil)
        refine ⟨_, rfl, rfl, _, rfl, ?_⟩
        rw [one_eq c 123 "{" (by decide +kernel)]
        cases h1 : c == 123 with
        | true =>
          have hb : brace c = true := by unfold brace; rw [h1]; rfl
          refine iteT (iteT ⟨_, rfl, .inl ⟨rfl, _, SqL.of o3⟩, _, rfl, _, rfl, _, rfl, _, _, rfl, rfl, sizes (by show 3 ≤ 100000; decide), fun p hp => ?_⟩)
          obtain ⟨a1, a2, a3⟩ := put hb p hp
          exact ⟨o, us3, _, rfl, rfl, a1, a2, a3⟩
        | false =>
          refine iteF ⟨_, rfl, rfl, _, rfl, ?_⟩
          rw [one_eq c 125 "}" (by decide +kernel)]
          cases h2 : c == 125 with
          | true =>
            have hb : brace c = true := by unfold brace; rw [h1, h2]; rfl
            refine iteT ⟨_, rfl, .inl ⟨rfl, _, SqL.of o3⟩, _, rfl, _, rfl, _, rfl, _, _, rfl, rfl, sizes (by show 3 ≤ 100000; decide), fun p hp => ?_⟩
            obtain ⟨a1, a2, a3⟩ := put hb p hp
            exact ⟨o, us3, _, rfl, rfl, a1, a2, a3⟩
          | false =>
            have hb : brace c = false := by unfold brace; rw [h1, h2]; rfl
            exact iteF (fin hb)
  · rw [ePv] at hp
    obtain ⟨ws, cur, us, y4, y5, lxi, rfl, s1, o1, wl⟩ := hp
    rw [ll] at lxi
    have e1 := lxi.e
    have ex : (cs x ++ [32]).drop (x.length + 1) = [] := List.drop_eq_nil_of_le (by rw [List.length_append, ← len_cs]; exact Nat.le_refl _)
    rw [ex, lexGo, List.append_nil] at e1
    have lw := lxi.lw
    have ul := wl.len
    exact ⟨_, rfl, q o us H1 s1 ho o1 (by rw [← e1]; exact wl) (by omega)⟩
/-! ### split_words -/
theorem lex_empty : lexLine Str.empty = [] := by decide +kernel
def spSplitW : Sp := fun vs H Q _ => ∃ (l : List Str), vs = [.str (Txt.join "" (l.map endl))] ∧ l.length ≤ 300 ∧ (∀ y ∈ l, Line 34 y) ∧ (Txt.join "" (l.map endl)).length ≤ 20000 ∧
  ∀ (r : Addr) (us : List V) (H' : Hp), Same H H' → H r = none → H' r = some (.lst us) → Wl H' us (lexes l) → us.length ≤ 100000 → Q (.ref r) H'
theorem ok_split_words (B : Bi mg) {f : Addr} {fd : FuncData} (A : At K mg d_split_words "split_words" f fd) (c1 : Cal P w K mg base "split_line" ["text", "line"] 1 spSplitL) : Cal P w K mg base "split_words" ["text"] 2 spSplitW := by
  refine ⟨f, fd, A.F.ok sc_split_words (fun vs H Q E h => ?_) (fun cdv A' outer s H vs Q E hr h => ?_), A.m, A.F.kp, A.F.bindsN fun _ _ _ _ _ _ us hl => match us, hl with | [_], _ => rfl⟩
  · obtain ⟨l, rfl, _⟩ := h
    rfl
  obtain ⟨l, rfl, l300, hl, lz, q⟩ := h
  obtain ⟨f1, fd1, G1, m1, k1, b1⟩ := c1
  have nd := sc_split_words.nd
  refine ⟨_, PSs.nox (pss_cons (ps_set (i := 1) nd rfl (.inl rfl) (pe_lst pa_nil))
    (pss_cons (ps_for PassesOwn.never rfl (pi_enumK (by decide) (by decide) (by rfl) B.enum (pa_cons (pe_split (pv 0) pe_str) pa_nil)) (pg_tup (by rfl) (pgs_cons (pg_name (i := 2) nd rfl (.inl rfl)) (pgs_cons (pg_name (i := 3) nd rfl (.inl rfl)) pgs_nil)))
      (pss_cons (ps_asg (pe_partition (pv 3) pe_str) (pg_tup (by rfl) (pgs_cons (pg_name (i := 4) nd rfl (.inl rfl)) (pgs_cons (pg_name (i := 5) nd rfl (.inl rfl)) (pgs_cons (pg_name (i := 5) nd rfl (.inl rfl)) pgs_nil)))))
      (pss_one (ps_expr (pe_bm PySem.F.plainAttrs_list PySem.F.slot_list_extend PySem.F.type_list_extend mt_extend (pv 1) (pa_cons (pe_call G1 hr (by rfl) m1 k1 b1 .nil pass0 (pa_cons (pv 4) (pa_cons (pv 2) pa_nil))) pa_nil))))))
    (pss_one (ps_ret (pv 1))))), ?_⟩
  generalize hx : Txt.join "" (l.map endl) = x at *
  have er : Txt.split x "\n" = l ++ [Str.empty] := by rw [← hx]; exact rows_again fun y hy => (hl y hy).1
  have rw_ : ∀ y ∈ l ++ [Str.empty], Tame y ∧ y.length ≤ 34 := fun y hy => by
    rcases List.mem_append.mp hy with hy | hy
    · exact hl y hy
    · rw [List.mem_singleton.mp hy]
      exact ⟨(fun _ m => nomatch m), Nat.zero_le _⟩
  have el : lexes l = lexes (l ++ [Str.empty]) := by rw [lexes_app, lexes_cons, lex_empty, lexes_nil, List.append_nil, List.append_nil]
  generalize hrows : l ++ [Str.empty] = rows at *
  have lr : rows.length ≤ 301 := by rw [← hrows, List.length_append]; show l.length + 1 ≤ 301; omega
  refine ⟨Nat.zero_le _, fun o ho => ?_⟩
  refine ⟨_, rfl, ⟨_, rfl⟩, x, "\n", rfl, rfl, by decide +kernel, sizes (by omega), fun p hp => ?_⟩
  rw [er]
  have po : p ≠ o := fun z => by rw [z, upd_same] at hp; cases hp
  have p0 : H p = none := by rw [upd_ne po] at hp; exact hp
  refine ⟨p, rows.map V.str, rfl, SqL.of upd_same, ?_⟩
  obtain ⟨Pv, ePv⟩ : ∃ Pv : Nat → L2.St → Hp → Prop, Pv = fun i σ H1 => ∃ (us : List V) (y2 y3 y4 y5 : Option V), σ = [some (.str x), some (.ref o), y2, y3, y4, y5] ∧
      (∀ b u, H b = some u → H1 b = some u) ∧ H1 p = some (.lst (rows.map V.str)) ∧ H1 o = some (.lst us) ∧ Wl H1 us (lexes (rows.take i)) ∧ us.length ≤ 300 * i := ⟨_, rfl⟩
  refine for_ek (K := K) (xs := rows.map V.str) Pv (by
    rw [ePv]
    exact ⟨[], _, _, _, _, rfl, Same.trans (same_new ho) (same_new hp), upd_same, by rw [upd_ne (Ne.symm po)]; exact upd_same, .nil, Nat.zero_le _⟩) (fun i σ H1 hi hpv => ?_) (fun i v T σ H1 hv hT hpv => ?_) (fun σ H1 hpv => ?_)
  · rw [ePv] at hpv
    obtain ⟨us, y2, y3, y4, y5, rfl, s1, p1, o1, wl, ul⟩ := hpv
    exact SqL.of p1
  · rw [ePv] at hpv
    obtain ⟨us, y2, y3, y4, y5, rfl, s1, p1, o1, wl, ul⟩ := hpv
    rw [List.getElem?_map] at hv
    obtain ⟨y, hy, rfl⟩ := Option.map_eq_some_iff.mp hv
    obtain ⟨ty, ly⟩ := rw_ y (List.mem_of_getElem? hy)
    have ir : i < rows.length := (List.getElem?_eq_some_iff.mp hy).1
    refine ⟨T, _, rfl, SqT.of upd_same, rfl, _, _, rfl, _, _, rfl, rfl, ?_⟩
    have s2 : Same H1 (upd H1 T (.tup [.int (1 + (i : Nat)), .str y])) := same_new hT
    generalize upd H1 T (.tup [.int (1 + (i : Nat)), .str y]) = H2 at s2
    refine ⟨_, rfl, ⟨_, rfl⟩, y, "#", rfl, rfl, by decide +kernel, sizes (by omega), fun p3 hp3 => ?_⟩
    rw [no_remark ty]
    have s3 := Same.trans s2 (same_new hp3 (o := .tup [.str y, .str (Txt.partition y "#").2.1, .str (Txt.partition y "#").2.2]))
    refine ⟨p3, _, rfl, SqT.of upd_same, rfl, _, _, rfl, _, _, rfl, _, _, rfl, rfl, ?_⟩
    generalize upd H2 p3 (.tup [.str y, .str (Txt.partition y "#").2.1, .str (Txt.partition y "#").2.2]) = H3 at s3
    refine ⟨_, rfl, .inl ⟨rfl, _, SqL.of (s3 _ _ o1)⟩, _, rfl, _, rfl, y, _, rfl, by omega, fun r vs H4 s4 hr0 hr1 wl4 vl => ?_⟩
    have s5 := Same.trans s3 s4
    have ro : o ≠ r := ne_of_none (s3 _ _ o1) hr0
    refine ⟨o, r, us, vs, rfl, rfl, s5 _ _ o1, hr1, sizes (by omega), ?_⟩
    show Pv (i + 1) _ _
    rw [ePv]
    have up : ∀ b u, b ≠ o → H4 b = some u → upd H4 o (.lst (us ++ vs)) b = some u := fun b u nb e => by rw [upd_ne nb]; exact e
    refine ⟨us ++ vs, _, _, _, _, rfl, fun b u hb => up b u (ne_of_none hb ho) (s5 _ _ (s1 _ _ hb)), up p _ po (s5 _ _ p1), upd_same, ?_, by rw [List.length_append]; omega⟩
    rw [List.take_add_one, hy, lexes_app]
    refine (wl_set (s5 _ _ o1) (wl.up s5)).app ?_
    show Wl _ vs (lexes [y])
    rw [lexes_cons, lexes_nil, List.append_nil]
    exact wl_set (s5 _ _ o1) wl4
  · rw [ePv] at hpv
    obtain ⟨us, y2, y3, y4, y5, rfl, s1, p1, o1, wl, ul⟩ := hpv
    rw [List.length_map] at ul wl
    rw [List.take_length] at wl
    exact ⟨_, rfl, q o us H1 s1 ho o1 (by rw [el]; exact wl) (by omega)⟩
end
end K53

/-! KI -/
/-! the reader: its small methods -/
namespace K53
open PySem PySem.Spec PyProof.Rows L2
structure AtM (K : PySem.W.Frag) (C : Addr) (d : He.DefD) (x : Str) (f : Addr) (fd : FuncData) : Prop where
  F : FunD K d.name d.qual d.params d.body d.scope [] [] f fd
  m : Meth K C x f
/-- the class Reader -/
structure RdC (K : PySem.W.Frag) (C : Addr) : Prop where
  cls : Cls K C
  nw : NoAttr K C "words"
  na : NoAttr K C "at"
  nb : NoAttr K C "braces"
def rdF (w : Addr) (i k : Nat) : List (Str × V) := [("words", .ref w), ("at", .int (i : Int)), ("braces", .int (k : Int))]
/-- the reader at r stands at the word i, k braces open -/
structure RdS (H : Hp) (r C dx w : Addr) (us : List V) (ws : List Str) (i k : Nat) : Prop where
  rd : H r = some (.ins C dx (rdF w i k))
  wl : H w = some (.lst us)
  wd : Wl H us ws
  lu : us.length ≤ 100000
  li : i ≤ 100000
  lk : k ≤ 100
def rdO (C dx w : Addr) (i k : Nat) : HO := .ins C dx (rdF w i k)
section
variable {H H' : Hp} {r C dx w : Addr} {us : List V} {ws : List Str} {i k : Nat}
theorem lk_w (w : Addr) (i k : Nat) : (rdF w i k).lookup ("words" : Str) = some (V.ref w) := rfl
theorem lk_a (w : Addr) (i k : Nat) : (rdF w i k).lookup ("at" : Str) = some (V.int (i : Int)) := rfl
theorem lk_b (w : Addr) (i k : Nat) : (rdF w i k).lookup ("braces" : Str) = some (V.int (k : Int)) := rfl
theorem RdS.ne (h : RdS H r C dx w us ws i k) : r ≠ w := fun e => by
  have := h.rd
  rw [e, h.wl] at this
  cases this
theorem wl_ins {H : Hp} {o C dx : Addr} {fs : List (Str × V)} {vs : List V} {xs : List Str} {u : HO} (ho : H o = some (.ins C dx fs)) (h : Wl H vs xs) : Wl (upd H o u) vs xs := by
  induction h with
  | nil => exact .nil
  | cons a _ ih =>
    obtain ⟨b, l, d, e1, e2⟩ := a
    refine .cons ⟨b, l, d, e1, ?_⟩ ih
    rw [upd_ne (fun z : b = o => by rw [z, ho] at e2; cases e2)]
    exact e2
theorem wl_keep {D : Addr → Prop} {vs : List V} {xs : List Str} (a : Kp D H H') (ht : ∀ b, D b → mu (H b) = true) (h : Wl H vs xs) : Wl H' vs xs := by
  induction h with
  | nil => exact .nil
  | cons x _ ih =>
    obtain ⟨b, l, d, e1, e2⟩ := x
    exact .cons ⟨b, l, d, e1, a.same _ _ (fun z => by have := ht _ z; rw [e2] at this; cases this) e2⟩ ih
theorem RdS.put (h : RdS H r C dx w us ws i k) {i' k' : Nat} (hi : i' ≤ 100000) (hk : k' ≤ 100) : RdS (upd H r (rdO C dx w i' k')) r C dx w us ws i' k' :=
  ⟨upd_same, by rw [upd_ne (Ne.symm h.ne)]; exact h.wl, wl_ins h.rd h.wd, h.lu, hi, hk⟩
theorem RdS.lt (h : RdS H r C dx w us ws i k) {x : Str} (e : ws[i]? = some x) : i < us.length := by
  rw [h.wd.len]
  exact (List.getElem?_eq_some_iff.mp e).1
theorem RdS.kp (h : RdS H r C dx w us ws i k) (i' k' : Nat) : Kp (· = r) H (upd H r (rdO C dx w i' k')) := Kp.put rfl rfl
theorem RdS.at_ (h : RdS H r C dx w us ws i k) {x : Str} (e : ws[i]? = some x) : ∃ p l c, us[i]? = some (.ref p) ∧ H p = some (.tup [.str x, .int l, .int c]) := by
  obtain ⟨v, hv, p, l, c, rfl, hp⟩ := h.wd.get e
  exact ⟨p, l, c, hv, hp⟩
/-- what is kept keeps the reader, if the reader itself was not touched -/
theorem RdS.keep {D : Addr → Prop} (h : RdS H r C dx w us ws i k) (a : Kp D H H') (hr : ¬ D r) (hw : ¬ D w) (ht : ∀ b, D b → mu (H b) = true) : RdS H' r C dx w us ws i k := by
  exact ⟨a.same _ _ hr h.rd, a.same _ _ hw h.wl, wl_keep a ht h.wd, h.lu, h.li, h.lk⟩
end
section
variable {P : Program} {w : World} {K : PySem.W.Frag} {mg : Str → Option Value} {base : Heap} {C : Addr}
/-! ### __init__, is_done, peek, take -/
def spRInit (C : Addr) : Sp := fun vs H Q _ => ∃ (r dx w : Addr), vs = [.ref r, .ref w] ∧ H r = some (.ins C dx []) ∧ Q .non (upd H r (rdO C dx w 0 0))
theorem ok_R_init (R : RdC K C) {f : Addr} {fd : FuncData} (F : FunD K d_R_init.name d_R_init.qual d_R_init.params d_R_init.body d_R_init.scope [] [] f fd) : FnOk P w K mg base CX0 1 f fd ["self", "words"] (spRInit C) := by
  refine F.ok sc_R_init (fun vs H Q E h => ?_) (fun cdv A' outer s H vs Q E hr h => ?_)
  · obtain ⟨r, dx, w, rfl, _⟩ := h
    rfl
  obtain ⟨r, dx, w, rfl, h0, q⟩ := h
  refine ⟨_, PSs.nox (pss_cons (ps_fld (pv 0) (pv 1) (by rfl)) (pss_cons (ps_fld (pv 0) pe_int (by rfl)) (pss_one (ps_fld (pv 0) pe_int (by rfl))))), ?_⟩
  refine ⟨_, rfl, _, rfl, r, C, dx, _, rfl, h0, R.cls, R.nw, by decide, _, rfl, r, C, dx, _, rfl, upd_same, R.cls, R.na, by show 1 < 1000; decide, _, rfl, r, C, dx, _, rfl, upd_same, R.cls, R.nb, by show 2 < 1000; decide, ?_⟩
  rw [upd_upd, upd_upd]
  exact q
def spIsDone (C : Addr) : Sp := fun vs H Q _ => ∃ (r dx w : Addr) (us : List V) (ws : List Str) (i k : Nat), vs = [.ref r] ∧ RdS H r C dx w us ws i k ∧ Q (.bl (decide (ws.length ≤ i))) H
theorem ok_is_done (B : Bi mg) (R : RdC K C) {f : Addr} {fd : FuncData} (A : AtM K C d_R_is_done "is_done" f fd) : CalM P w K mg base C "is_done" ["self"] 1 (spIsDone C) := by
  refine ⟨f, fd, A.F.ok sc_R_is_done (fun vs H Q E h => ?_) (fun cdv A' outer s H vs Q E hr h => ?_), A.m, A.F.bindsN fun _ _ _ _ _ _ us hl => match us, hl with | [_], _ => rfl⟩
  · obtain ⟨r, dx, w, us, ws, i, k, rfl, _⟩ := h
    rfl
  obtain ⟨r, dx, w, us, ws, i, k, rfl, S, q⟩ := h
  refine ⟨_, PSs.nox (pss_one (ps_ret (pe_cmpR op_ge (pe_fld (pv 0) (by rfl)) (pe_callB call_len_seq (by rfl) B.len PySem.boot_len (pa_cons (pe_fld (pv 0) (by rfl)) pa_nil)) (nomark _)))), ?_⟩
  refine ⟨_, rfl, r, C, dx, _, _, rfl, S.rd, R.cls, R.na, lk_a _ _ _, _, rfl, r, C, dx, _, _, rfl, S.rd, R.cls, R.nw, lk_w _ _ _, w, us, rfl, .inl (SqL.of S.wl), _, _, rfl, rfl, ?_⟩
  have e : decide (((us.length : Nat) : Int) ≤ (i : Int)) = decide (ws.length ≤ i) := by
    rw [Bool.eq_iff_iff, decide_eq_true_eq, decide_eq_true_eq, ← S.wd.len]
    omega
  show Q (.bl (decide (((us.length : Nat) : Int) ≤ (i : Int)))) H
  rw [e]
  exact q
def spPeek (C : Addr) : Sp := fun vs H Q _ => ∃ (r dx w : Addr) (us : List V) (ws : List Str) (i k : Nat), vs = [.ref r] ∧ RdS H r C dx w us ws i k ∧ Q (.str ((ws[i]?).getD "")) H
theorem ok_peek (B : Bi mg) (R : RdC K C) {f : Addr} {fd : FuncData} (A : AtM K C d_R_peek "peek" f fd) (c1 : CalM P w K mg base C "is_done" ["self"] 1 (spIsDone C)) : CalM P w K mg base C "peek" ["self"] 2 (spPeek C) := by
  refine ⟨f, fd, A.F.ok sc_R_peek (fun vs H Q E h => ?_) (fun cdv A' outer s H vs Q E hr h => ?_), A.m, A.F.bindsN fun _ _ _ _ _ _ us hl => match us, hl with | [_], _ => rfl⟩
  · obtain ⟨r, dx, w, us, ws, i, k, rfl, _⟩ := h
    rfl
  obtain ⟨r, dx, w, us, ws, i, k, rfl, S, q⟩ := h
  obtain ⟨f1, fd1, G1, m1, b1⟩ := c1
  have nd := sc_R_peek.nd
  refine ⟨_, PSs.nox (pss_cons (ps_if (pt_val (pe_meth0 (pv 0) R.cls m1 G1 hr b1 .nil pass0)) (pss_one (ps_ret pe_str)) pss_nil)
    (pss_cons (ps_asg (pe_ix ix_list (pe_fld (pv 0) (by rfl)) (pe_fld (pv 0) (by rfl)) (fun _ _ => rfl)) (pg_tup (by rfl) (pgs_cons (pg_name (i := 1) nd rfl (.inl rfl)) (pgs_cons (pg_name (i := 2) nd rfl (.inl rfl)) (pgs_cons (pg_name (i := 2) nd rfl (.inl rfl)) pgs_nil)))))
    (pss_one (ps_ret (pv 1))))), ?_⟩
  refine ⟨_, rfl, r, dx, _, rfl, S.rd, rfl, r, dx, w, us, ws, i, k, rfl, S, ?_⟩
  cases e : ws[i]? with
  | none =>
    rw [e] at q
    rw [decide_eq_true (List.getElem?_eq_none_iff.mp e)]
    exact ⟨_, rfl, iteT q⟩
  | some x =>
    rw [e] at q
    have hl := (List.getElem?_eq_some_iff.mp e).1
    obtain ⟨p, l, c, hu, hp⟩ := S.at_ e
    rw [decide_eq_false (show ¬ ws.length ≤ i by omega)]
    exact ⟨_, rfl, iteF ⟨_, rfl, r, C, dx, _, _, rfl, S.rd, R.cls, R.nw, lk_w _ _ _, _, rfl, r, C, dx, _, _, rfl, S.rd, R.cls, R.na, lk_a _ _ _, w, us, (i : Int), _, rfl, rfl, SqL.of S.wl, atI_nat hu,
      p, _, rfl, SqT.of hp, rfl, _, _, rfl, _, _, rfl, _, _, rfl, rfl, _, rfl, q⟩⟩
theorem put_a (w : Addr) (i k : Nat) : putF "at" (.int ((i : Int) + 1)) (rdF w i k) = rdF w (i + 1) k := rfl
theorem put_b (w : Addr) (i k : Nat) : putF "braces" (.int ((k : Int) + 1)) (rdF w i k) = rdF w i (k + 1) := rfl
theorem put_c (w : Addr) (i k : Nat) : putF "braces" (.int (((k + 1 : Nat) : Int) - 1)) (rdF w i (k + 1)) = rdF w i k := by
  rw [show ((k + 1 : Nat) : Int) - 1 = (k : Int) by omega]
  rfl
/-- a word is taken: x at i, the result g x -/
def spTake (C : Addr) (ok : Str → V → Prop) : Sp := fun vs H Q _ => ∃ (r dx w : Addr) (us : List V) (ws : List Str) (i k : Nat) (x : Str) (v : V), vs = [.ref r] ∧ RdS H r C dx w us ws i k ∧ ws[i]? = some x ∧ ok x v ∧ Q v (upd H r (rdO C dx w (i + 1) k))
def okTake : Str → V → Prop := fun x v => v = .str x
theorem ok_take (R : RdC K C) {f : Addr} {fd : FuncData} (A : AtM K C d_R_take "take" f fd) : CalM P w K mg base C "take" ["self"] 1 (spTake C okTake) := by
  refine ⟨f, fd, A.F.ok sc_R_take (fun vs H Q E h => ?_) (fun cdv A' outer s H vs Q E hr h => ?_), A.m, A.F.bindsN fun _ _ _ _ _ _ us hl => match us, hl with | [_], _ => rfl⟩
  · obtain ⟨r, dx, w, us, ws, i, k, x, v, rfl, _⟩ := h
    rfl
  obtain ⟨r, dx, w, us, ws, i, k, x, v, rfl, S, e, rfl, q⟩ := h
  have nd := sc_R_take.nd
  refine ⟨_, PSs.nox (pss_cons (ps_asg (pe_ix ix_list (pe_fld (pv 0) (by rfl)) (pe_fld (pv 0) (by rfl)) (fun _ _ => rfl)) (pg_tup (by rfl) (pgs_cons (pg_name (i := 1) nd rfl (.inl rfl)) (pgs_cons (pg_name (i := 2) nd rfl (.inl rfl)) (pgs_cons (pg_name (i := 2) nd rfl (.inl rfl)) pgs_nil)))))
    (pss_cons (ps_fld (pv 0) (pe_op op_add (pe_fld (pv 0) (by rfl)) pe_int) (by rfl))
    (pss_one (ps_ret (pv 1))))), ?_⟩
  obtain ⟨p, l, c, hu, hp⟩ := S.at_ e
  refine ⟨_, rfl, r, C, dx, _, _, rfl, S.rd, R.cls, R.nw, lk_w _ _ _, _, rfl, r, C, dx, _, _, rfl, S.rd, R.cls, R.na, lk_a _ _ _, w, us, (i : Int), _, rfl, rfl, SqL.of S.wl, atI_nat hu,
      p, _, rfl, SqT.of hp, rfl, _, _, rfl, _, _, rfl, _, _, rfl, rfl, ?_⟩
  refine ⟨_, rfl, r, C, dx, _, _, rfl, S.rd, R.cls, R.na, lk_a _ _ _, _, _, rfl, rfl, _, rfl, r, C, dx, _, rfl, S.rd, R.cls, R.na, by show 3 < 1000; decide, _, rfl, ?_⟩
  rw [put_a]
  exact q
/-! ### take_name, take_switch, take_count, open_brace -/
def okName : Str → V → Prop := fun x v => v = .str x ∧ NameOk x
theorem ok_take_name (R : RdC K C) {f : Addr} {fd : FuncData} (A : AtM K C d_R_take_name "take_name" f fd) (c1 : CalM P w K mg base C "peek" ["self"] 2 (spPeek C)) (c2 : CalM P w K mg base C "take" ["self"] 1 (spTake C okTake))
    (c3 : Cal P w K mg base "is_name" ["word"] 1 spIsName) : CalM P w K mg base C "take_name" ["self"] 3 (spTake C okName) := by
  refine ⟨f, fd, A.F.ok sc_R_take_name (fun vs H Q E h => ?_) (fun cdv A' outer s H vs Q E hr h => ?_), A.m, A.F.bindsN fun _ _ _ _ _ _ us hl => match us, hl with | [_], _ => rfl⟩
  · obtain ⟨r, dx, w, us, ws, i, k, x, v, rfl, _⟩ := h
    rfl
  obtain ⟨r, dx, w, us, ws, i, k, x, v, rfl, S, e, ⟨rfl, nk⟩, q⟩ := h
  obtain ⟨f1, fd1, G1, m1, b1⟩ := c1
  obtain ⟨f2, fd2, G2, m2, b2⟩ := c2.mono (show 1 ≤ 2 by decide)
  obtain ⟨f3, fd3, G3, m3, k3, b3⟩ := c3.mono (show 1 ≤ 2 by decide)
  refine ⟨_, PSs.nox (pss_cons (ps_if (pt_not (pt_val (pe_call G3 hr (by rfl) m3 k3 b3 .nil pass0 (pa_cons (pe_meth0 (pv 0) R.cls m1 G1 hr b1 .nil pass0) pa_nil)))) pss_never pss_nil)
    (pss_one (ps_ret (pe_meth0 (pv 0) R.cls m2 G2 hr b2 .nil pass0)))), ?_⟩
  refine ⟨_, rfl, r, dx, _, rfl, S.rd, rfl, r, dx, w, us, ws, i, k, rfl, S, x, by rw [e]; rfl, nk, _, rfl, iteF ⟨_, rfl, r, dx, _, rfl, S.rd, rfl, r, dx, w, us, ws, i, k, x, _, rfl, S, e, rfl, q⟩⟩
def okSwitch : Str → V → Prop := fun x v => ∃ b, v = .bl b ∧ x = onoff b
theorem ok_take_switch (R : RdC K C) {f : Addr} {fd : FuncData} (A : AtM K C d_R_take_switch "take_switch" f fd) (c1 : CalM P w K mg base C "peek" ["self"] 2 (spPeek C)) (c2 : CalM P w K mg base C "take" ["self"] 1 (spTake C okTake)) :
    CalM P w K mg base C "take_switch" ["self"] 3 (spTake C okSwitch) := by
  refine ⟨f, fd, A.F.ok sc_R_take_switch (fun vs H Q E h => ?_) (fun cdv A' outer s H vs Q E hr h => ?_), A.m, A.F.bindsN fun _ _ _ _ _ _ us hl => match us, hl with | [_], _ => rfl⟩
  · obtain ⟨r, dx, w, us, ws, i, k, x, v, rfl, _⟩ := h
    rfl
  obtain ⟨r, dx, w, us, ws, i, k, x, v, rfl, S, e, ⟨b, rfl, rfl⟩, q⟩ := h
  obtain ⟨f1, fd1, G1, m1, b1⟩ := c1
  obtain ⟨f2, fd2, G2, m2, b2⟩ := c2.mono (show 1 ≤ 2 by decide)
  refine ⟨_, PSs.nox (pss_cons (ps_if (PW.pt (pw_and (pt_cmpR op_ne (pe_meth0 (pv 0) R.cls m1 G1 hr b1 .nil pass0) pe_str (nomark _)) (pw_and1 (pt_cmpR op_ne (pe_meth0 (pv 0) R.cls m1 G1 hr b1 .nil pass0) pe_str (nomark _))))) pss_never pss_nil)
    (pss_one (ps_ret (pe_cmpR op_eq (pe_meth0 (pv 0) R.cls m2 G2 hr b2 .nil pass0) pe_str (nomark _))))), ?_⟩
  have eb : decide (V.str (onoff b) = V.str "on") = b := by cases b <;> decide +kernel
  have key : ∀ (y : Bool), Q (.bl b) (upd H r (rdO C dx w (i + 1) k)) → (tRet (tOp rEq (tMeth C "take" (spTake C okTake) [] E0 (tVar 0) tNil) (tC (.str "on")))) { nx := fun _ _ => True, rt := Q, bk := fun _ _ => True, ct := fun _ _ => True } [some (.ref r)] H := fun _ q => by
    refine ⟨_, rfl, r, dx, _, rfl, S.rd, rfl, r, dx, w, us, ws, i, k, _, _, rfl, S, e, rfl, rfl, ?_⟩
    rw [eb]
    exact q
  refine ⟨_, rfl, r, dx, _, rfl, S.rd, rfl, r, dx, w, us, ws, i, k, rfl, S, ?_⟩
  rw [e]
  cases b with
  | true => exact ⟨rfl, _, rfl, iteF (key true q)⟩
  | false => exact ⟨rfl, _, rfl, iteT ⟨_, rfl, r, dx, _, rfl, S.rd, rfl, r, dx, w, us, ws, i, k, rfl, S, by rw [e]; exact ⟨rfl, _, rfl, iteF (key true q)⟩⟩⟩
def okCount : Str → V → Prop := fun x v => ∃ n : Nat, v = .int (n : Int) ∧ x = numS n ∧ 1 ≤ n ∧ n ≤ 3
theorem ok_take_count (R : RdC K C) {f : Addr} {fd : FuncData} (A : AtM K C d_R_take_count "take_count" f fd) (c1 : CalM P w K mg base C "peek" ["self"] 2 (spPeek C)) (c2 : Cal P w K mg base "read_count" ["word"] 1 spCount) :
    CalM P w K mg base C "take_count" ["self"] 3 (spTake C okCount) := by
  refine ⟨f, fd, A.F.ok sc_R_take_count (fun vs H Q E h => ?_) (fun cdv A' outer s H vs Q E hr h => ?_), A.m, A.F.bindsN fun _ _ _ _ _ _ us hl => match us, hl with | [_], _ => rfl⟩
  · obtain ⟨r, dx, w, us, ws, i, k, x, v, rfl, _⟩ := h
    rfl
  obtain ⟨r, dx, w, us, ws, i, k, x, v, rfl, S, e, ⟨n, rfl, rfl, n1, n3⟩, q⟩ := h
  obtain ⟨f1, fd1, G1, m1, b1⟩ := c1
  obtain ⟨f2, fd2, G2, m2, k2, b2⟩ := c2.mono (show 1 ≤ 2 by decide)
  have nd := sc_R_take_count.nd
  refine ⟨_, PSs.nox (pss_cons (ps_set (i := 1) nd rfl (.inl rfl) (pe_call G2 hr (by rfl) m2 k2 b2 .nil pass0 (pa_cons (pe_meth0 (pv 0) R.cls m1 G1 hr b1 .nil pass0) pa_nil)))
    (pss_cons (ps_if (pt_cmpR op_isN (pv 1) pe_non (nomark _)) pss_never pss_nil)
    (pss_cons (ps_fld (pv 0) (pe_op op_add (pe_fld (pv 0) (by rfl)) pe_int) (by rfl))
    (pss_one (ps_ret (pv 1)))))), ?_⟩
  refine ⟨_, rfl, r, dx, _, rfl, S.rd, rfl, r, dx, w, us, ws, i, k, rfl, S, n, by rw [e]; rfl, n1, n3, _, rfl, rfl, _, rfl, iteF ?_⟩
  refine ⟨_, rfl, r, C, dx, _, _, rfl, S.rd, R.cls, R.na, lk_a _ _ _, _, _, rfl, rfl, _, rfl, r, C, dx, _, rfl, S.rd, R.cls, R.na, by show 3 < 1000; decide, _, rfl, ?_⟩
  rw [put_a]
  exact q
def spOpen (C : Addr) : Sp := fun vs H Q _ => ∃ (r dx w : Addr) (us : List V) (ws : List Str) (i k : Nat), vs = [.ref r] ∧ RdS H r C dx w us ws i k ∧ ws[i]? = some "{" ∧ Q .non (upd H r (rdO C dx w (i + 1) (k + 1)))
theorem ok_open (R : RdC K C) {f : Addr} {fd : FuncData} (A : AtM K C d_R_open_brace "open_brace" f fd) (c1 : CalM P w K mg base C "peek" ["self"] 2 (spPeek C)) : CalM P w K mg base C "open_brace" ["self"] 3 (spOpen C) := by
  refine ⟨f, fd, A.F.ok sc_R_open_brace (fun vs H Q E h => ?_) (fun cdv A' outer s H vs Q E hr h => ?_), A.m, A.F.bindsN fun _ _ _ _ _ _ us hl => match us, hl with | [_], _ => rfl⟩
  · obtain ⟨r, dx, w, us, ws, i, k, rfl, _⟩ := h
    rfl
  obtain ⟨r, dx, w, us, ws, i, k, rfl, S, e, q⟩ := h
  obtain ⟨f1, fd1, G1, m1, b1⟩ := c1
  refine ⟨_, PSs.nox (pss_cons (ps_if (pt_cmpR op_ne (pe_meth0 (pv 0) R.cls m1 G1 hr b1 .nil pass0) pe_str (nomark _)) pss_never pss_nil)
    (pss_cons (ps_fld (pv 0) (pe_op op_add (pe_fld (pv 0) (by rfl)) pe_int) (by rfl))
    (pss_one (ps_fld (pv 0) (pe_op op_add (pe_fld (pv 0) (by rfl)) pe_int) (by rfl))))), ?_⟩
  refine ⟨_, rfl, r, dx, _, rfl, S.rd, rfl, r, dx, w, us, ws, i, k, rfl, S, ?_⟩
  rw [e]
  refine ⟨rfl, _, rfl, iteF ?_⟩
  refine ⟨_, rfl, r, C, dx, _, _, rfl, S.rd, R.cls, R.na, lk_a _ _ _, _, _, rfl, rfl, _, rfl, r, C, dx, _, rfl, S.rd, R.cls, R.na, by show 3 < 1000; decide, ?_⟩
  refine ⟨_, rfl, r, C, dx, _, _, rfl, upd_same, R.cls, R.nb, rfl, _, _, rfl, rfl, _, rfl, r, C, dx, _, rfl, upd_same, R.cls, R.nb, by show 3 < 1000; decide, ?_⟩
  rw [upd_upd, put_a, put_b]
  exact q
end
end K53

/-! KJ -/
/-! the reader: statements -/
namespace K53
open PySem PySem.Spec PyProof.Rows L2
theorem drop_hd {ws : List Str} {i : Nat} {x : Str} {l : List Str} (h : ws.drop i = x :: l) : ws[i]? = some x ∧ ws.drop (i + 1) = l := by
  have hi : i < ws.length := by
    by_cases q : i < ws.length
    · exact q
    · rw [List.drop_eq_nil_of_le (by omega)] at h
      cases h
  rw [List.drop_eq_getElem_cons hi] at h
  obtain ⟨e1, e2⟩ := List.cons.inj h
  exact ⟨by rw [List.getElem?_eq_getElem hi, e1], e2⟩
theorem drop_at {ws : List Str} {i : Nat} {l : List Str} (h : ws.drop i = l) : ws[i]? = l.head? := by
  rw [← h, List.head?_drop]
theorem drop_more {ws : List Str} {i : Nat} {a l : List Str} (h : ws.drop i = a ++ l) : ws.drop (i + a.length) = l := by
  rw [← List.drop_drop, h, List.drop_left]
section
variable {H H' : Hp} {r C dx w : Addr} {us : List V} {ws : List Str} {i k : Nat}
theorem RdS.lt2 (h : RdS H r C dx w us ws i k) {j : Nat} {x : Str} (e : ws[j]? = some x) : j + 1 ≤ 100000 := by
  have := (List.getElem?_eq_some_iff.mp e).1
  have := h.lu
  have := h.wd.len
  omega
theorem RdS.step (h : RdS H r C dx w us ws i k) {x : Str} (e : ws[i]? = some x) {k' : Nat} (hk : k' ≤ 100) : RdS (upd H r (rdO C dx w (i + 1) k')) r C dx w us ws (i + 1) k' := h.put (h.lt2 e) hk
theorem RdS.next (h : RdS H r C dx w us ws i k) (a : Kp (· = r) H H') {i' k' : Nat} (e : H' r = some (rdO C dx w i' k')) (hi : i' ≤ 100000) (hk : k' ≤ 100) : RdS H' r C dx w us ws i' k' :=
  ⟨e, a.same _ _ (fun z => h.ne z.symm) h.wl, wl_keep a (fun b e => by rw [e, h.rd]; rfl) h.wd, h.lu, hi, hk⟩
theorem RdS.mu (h : RdS H r C dx w us ws i k) : ∀ b, b = r → mu (H b) = true := fun b e => by rw [e, h.rd]; rfl
end
theorem pl_cases {p : Pl} {kw : Str} {rest : List Str} (ok : p.Ok) (et : p.toks = kw :: rest) : (∃ n, PlainW kw ∧ rest = [n] ∧ NameOk n ∧ p.data = .tuple [.str kw, .str n]) ∨
    (∃ n b, (kw = "set" ∨ kw = "wait") ∧ rest = [n, onoff b] ∧ NameOk n ∧ p.data = .tuple [.str kw, .str n, .bool b]) ∨ (kw = "release" ∧ rest = [] ∧ p.data = .tuple [.str "release"]) := by
  cases p with
  | move n => obtain ⟨e1, e2⟩ := List.cons.inj et; subst e1 e2; exact .inl ⟨n, plainW (.inl rfl), rfl, ok, rfl⟩
  | take n => obtain ⟨e1, e2⟩ := List.cons.inj et; subst e1 e2; exact .inl ⟨n, plainW (.inr (.inl rfl)), rfl, ok, rfl⟩
  | call n => obtain ⟨e1, e2⟩ := List.cons.inj et; subst e1 e2; exact .inl ⟨n, plainW (.inr (.inr rfl)), rfl, ok, rfl⟩
  | set n b => obtain ⟨e1, e2⟩ := List.cons.inj et; subst e1 e2; exact .inr (.inl ⟨n, b, .inl rfl, rfl, ok, rfl⟩)
  | wait n b => obtain ⟨e1, e2⟩ := List.cons.inj et; subst e1 e2; exact .inr (.inl ⟨n, b, .inr rfl, rfl, ok, rfl⟩)
  | release => obtain ⟨e1, e2⟩ := List.cons.inj et; subst e1 e2; exact .inr (.inr ⟨rfl, rfl, rfl⟩)
section
variable {P : Program} {w : World} {K : PySem.W.Frag} {mg : Str → Option Value} {base : Heap} {C : Addr}
/-- what a reading method leaves: n words further -/
def After (K : PySem.W.Frag) (H : Hp) (r C dx w : Addr) (i k : Nat) (dat : PyData) (v : V) (H' : Hp) : Prop := Kp (· = r) H H' ∧ H' r = some (rdO C dx w i k) ∧ Dp K (nw H H') v dat
def spPlainR (K : PySem.W.Frag) (C : Addr) : Sp := fun vs H Q _ => ∃ (r dx w : Addr) (us : List V) (ws : List Str) (i k : Nat) (p : Pl) (kw : Str) (rest post : List Str), vs = [.ref r, .str kw] ∧ RdS H r C dx w us ws i k ∧
  p.Ok ∧ p.toks = kw :: rest ∧ ws.drop i = rest ++ post ∧ ∀ v H', After K H r C dx w (i + rest.length) k p.data v H' → Q v H'
theorem ok_read_plain (R : RdC K C) {f : Addr} {fd : FuncData} (A : AtM K C d_R_read_plain "read_plain" f fd) (c1 : CalM P w K mg base C "take_name" ["self"] 3 (spTake C okName)) (c2 : CalM P w K mg base C "take_switch" ["self"] 3 (spTake C okSwitch)) :
    CalM P w K mg base C "read_plain" ["self", "word"] 4 (spPlainR K C) := by
  refine ⟨f, fd, A.F.ok sc_R_read_plain (fun vs H Q E h => ?_) (fun cdv A' outer s H vs Q E hr h => ?_), A.m, A.F.bindsN fun _ _ _ _ _ _ us hl => match us, hl with | [_, _], _ => rfl⟩
  · obtain ⟨r, dx, w, us, ws, i, k, p, kw, rest, post, rfl, _⟩ := h
    rfl
  obtain ⟨r, dx, w, us, ws, i, k, p, kw, rest, post, rfl, S, ok, et, ed, q⟩ := h
  obtain ⟨f1, fd1, G1, m1, b1⟩ := c1
  obtain ⟨f2, fd2, G2, m2, b2⟩ := c2
  have nd := sc_R_read_plain.nd
  refine ⟨_, PSs.nox (pss_cons (ps_if (pt_cmpR op_eq (pv 1) pe_str (nomark _)) (pss_one (ps_ret (pe_tup (pa_cons pe_str pa_nil)))) pss_nil)
    (pss_cons (ps_set (i := 2) nd rfl (.inl rfl) (pe_meth0 (pv 0) R.cls m1 G1 hr b1 .nil pass0))
    (pss_cons (ps_if (PW.pt (pw_or (pt_cmpR op_eq (pv 1) pe_str (nomark _)) (pw_or1 (pt_cmpR op_eq (pv 1) pe_str (nomark _)))))
      (pss_one (ps_ret (pe_tup (pa_cons (pv 1) (pa_cons (pv 2) (pa_cons (pe_meth0 (pv 0) R.cls m2 G2 hr b2 .nil pass0) pa_nil)))))) pss_nil)
    (pss_one (ps_ret (pe_tup (pa_cons (pv 1) (pa_cons (pv 2) pa_nil)))))))), ?_⟩
  have few : ∀ {n : Nat}, n ≤ 4 → n ≤ sizeLine := fun h => sizes (by omega)
  -- word name
  rcases pl_cases ok et with ⟨n, pw, er, nk, edat⟩ | ⟨n, b, hk, er, nk, edat⟩ | ⟨e1, e2, edat⟩
  · subst er
    obtain ⟨e1, e2⟩ := drop_hd (show ws.drop i = n :: post from ed)
    refine ⟨_, rfl, rfl, _, rfl, itN pw.n5 ⟨_, rfl, r, dx, _, rfl, S.rd, rfl, r, dx, w, us, ws, i, k, n, _, rfl, S, e1, ⟨rfl, nk⟩, ?_⟩⟩
    refine ⟨_, rfl, rfl, _, rfl, itN pw.n3 ⟨_, rfl, rfl, _, rfl, itN pw.n4 ?_⟩⟩
    refine ⟨_, rfl, _, rfl, few (by show 2 ≤ 4; decide), fun p0 hp => ?_⟩
    have rp : r ≠ p0 := fun z => by rw [← z, upd_same] at hp; cases hp
    refine q _ _ ⟨(S.kp _ _).trans (Kp.new hp), by rw [upd_ne rp]; exact upd_same, ?_⟩
    rw [edat]
    exact dp_tuple (by rw [upd_ne (Ne.symm rp)] at hp; exact hp) (.cons (.str _) (.cons (.str _) .nil))
  · subst er
    have n5 : kw ≠ "release" := by rcases hk with rfl | rfl <;> decide +kernel
    obtain ⟨e1, e2⟩ := drop_hd (show ws.drop i = n :: (onoff b :: post) from ed)
    obtain ⟨e3, e4⟩ := drop_hd e2
    refine ⟨_, rfl, rfl, _, rfl, itN n5 ⟨_, rfl, r, dx, _, rfl, S.rd, rfl, r, dx, w, us, ws, i, k, n, _, rfl, S, e1, ⟨rfl, nk⟩, ?_⟩⟩
    have S1 := S.step e1 S.lk
    have tail : (tRet (tTup (tCons (tVar 1) (tCons (tVar 2) (tCons (tMeth C "take_switch" (spTake C okSwitch) [] E0 (tVar 0) tNil) tNil))))) { nx := fun _ _ => True, rt := Q, bk := fun _ _ => True, ct := fun _ _ => True } [some (.ref r), some (.str kw), some (.str n)] (upd H r (rdO C dx w (i + 1) k)) := by
      refine ⟨_, rfl, _, rfl, _, rfl, r, dx, _, rfl, S1.rd, rfl, r, dx, w, us, ws, i + 1, k, _, _, rfl, S1, e3, ⟨b, rfl, rfl⟩, few (by show 3 ≤ 4; decide), fun p0 hp => ?_⟩
      have rp : r ≠ p0 := fun z => by rw [← z, upd_same] at hp; cases hp
      rw [upd_upd] at hp ⊢
      refine q _ _ ⟨(S.kp _ _).trans (Kp.new hp), by rw [upd_ne rp]; exact upd_same, ?_⟩
      rw [edat]
      exact dp_tuple (by rw [upd_ne (Ne.symm rp)] at hp; exact hp) (.cons (.str _) (.cons (.str _) (.cons (.bl _) .nil)))
    rcases hk with rfl | rfl
    · exact ⟨_, rfl, rfl, _, rfl, itS rfl tail⟩
    · exact ⟨_, rfl, rfl, _, rfl, itN (by decide +kernel) ⟨_, rfl, rfl, _, rfl, itS rfl tail⟩⟩
  · subst e1 e2
    refine ⟨_, rfl, rfl, _, rfl, itS rfl ⟨few (by show 1 ≤ 4; decide), fun p0 hp => ?_⟩⟩
    have rp : r ≠ p0 := ne_of_none S.rd hp
    exact q _ _ ⟨Kp.new hp, by rw [upd_ne rp]; exact S.rd, by rw [edat]; exact dp_tuple hp (.cons (.str _) .nil)⟩
end
end K53

/-! KJ2 -/
/-! the reader: blocks, statements, ifs -/
namespace K53
open PySem PySem.Spec PyProof.Rows L2
abbrev kC : Str := "}"
abbrev kO : Str := "{"
abbrev kE : Str := "else"
def pk : List Str := ["move", "set", "wait", "take", "release", "call"]
theorem pl_kw (p : Pl) : ∃ kw rest, p.toks = kw :: rest ∧ kw ∈ pk := by
  cases p <;> exact ⟨_, _, rfl, by decide +kernel⟩
theorem pk_ne : ∀ x ∈ pk, x ≠ "if" ∧ x ≠ "repeat" ∧ x ≠ "}" ∧ x ≠ "else" ∧ x ≠ "routine" := by decide +kernel
/-- the first word of a statement -/
theorem tok_head (s : S) : ∃ x rest, s.toks = x :: rest ∧ x ≠ "}" ∧ x ≠ "else" ∧ x ≠ "routine" := by
  cases s with
  | pl p =>
    obtain ⟨kw, rest, e, m⟩ := pl_kw p
    rw [toks_pl]
    exact ⟨kw, rest, e, (pk_ne kw m).2.2⟩
  | iff x a b =>
    rw [toks_iff]
    exact ⟨_, _, rfl, by decide +kernel, by decide +kernel, by decide +kernel⟩
  | rep k a =>
    rw [toks_rep]
    exact ⟨_, _, rfl, by decide +kernel, by decide +kernel, by decide +kernel⟩
theorem head_else (l : List S) (y : Str) (post : List Str) (hy : y ≠ "else") : (toksL l ++ y :: post).head? ≠ some kE := by
  cases l with
  | nil =>
    rw [toksL_nil]
    exact fun h => hy (Option.some.inj h)
  | cons s r =>
    obtain ⟨x, rest, e, _, h, _⟩ := tok_head s
    rw [toksL_cons, e]
    exact fun z => h (Option.some.inj z)
section
variable {P : Program} {w : World} {K : PySem.W.Frag} {mg : Str → Option Value} {base : Heap} {C : Addr}
theorem After.lift {H H2 H' : Hp} {r dx w : Addr} {i k : Nat} {dat : PyData} {v : V} (a : Kp (· = r) H H2) (hD : ∀ b, b = r → mu (H b) = true) (A : After K H2 r C dx w i k dat v H') : After K H r C dx w i k dat v H' :=
  ⟨a.trans A.1, A.2.1, dp_made a Kp.refl hD A.2.2⟩
def spStR (K : PySem.W.Frag) (C : Addr) (n : Nat) : Sp := fun vs H Q _ => ∃ (r dx w : Addr) (us : List V) (ws : List Str) (i k : Nat) (d : Nat) (s : S) (post : List Str) (e : V), vs = [.ref r, e] ∧ RdS H r C dx w us ws i k ∧
  d < n ∧ k + d ≤ 8 ∧ Ok d s ∧ ws.drop i = s.toks ++ post ∧ post.head? ≠ some kE ∧ ∀ v H', After K H r C dx w (i + s.toks.length) k s.data v H' → Q v H'
def spBlR (K : PySem.W.Frag) (C : Addr) (n : Nat) : Sp := fun vs H Q _ => ∃ (r dx w : Addr) (us : List V) (ws : List Str) (i k : Nat) (d : Nat) (l : List S) (post : List Str), vs = [.ref r] ∧ RdS H r C dx w us ws i k ∧
  d < n ∧ k + 1 + d ≤ 8 ∧ OkL d l ∧ l.length ≤ 6 ∧ ws.drop i = kO :: (toksL l ++ kC :: post) ∧ ∀ v H', After K H r C dx w (i + 1 + (toksL l).length + 1) k (.list (dataL l)) v H' → Q v H'
def elseT (b : List S) : List Str := if b.isEmpty then [] else ("else" : Str) :: ("{" : Str) :: (toksL b ++ [("}" : Str)])
def spIfR (K : PySem.W.Frag) (C : Addr) (n : Nat) : Sp := fun vs H Q _ => ∃ (r dx w : Addr) (us : List V) (ws : List Str) (i k : Nat) (d : Nat) (x : Str) (a b : List S) (post : List Str), vs = [.ref r] ∧ RdS H r C dx w us ws i k ∧
  d < n ∧ k + 1 + d ≤ 8 ∧ NameOk x ∧ OkL d a ∧ OkL d b ∧ a.length ≤ 6 ∧ b.length ≤ 6 ∧ ws.drop i = x :: (kO :: (toksL a ++ kC :: (elseT b ++ post))) ∧ post.head? ≠ some kE ∧
  ∀ v H', After K H r C dx w (i + 1 + (1 + (toksL a).length + 1) + (elseT b).length) k (S.iff x a b).data v H' → Q v H'
theorem ok_block (R : RdC K C) {f : Addr} {fd : FuncData} (A : AtM K C d_R_read_block "read_block" f fd) {n L : Nat} (hL : 3 ≤ L) (c1 : CalM P w K mg base C "open_brace" ["self"] 3 (spOpen C)) (c2 : CalM P w K mg base C "peek" ["self"] 2 (spPeek C))
    (c3 : CalM P w K mg base C "read_statement" ["self", "expected"] L (spStR K C n)) : CalM P w K mg base C "read_block" ["self"] (L + 1) (spBlR K C n) := by
  refine ⟨f, fd, A.F.ok sc_R_read_block (fun vs H Q E h => ?_) (fun cdv A' outer s H vs Q E hr h => ?_), A.m, A.F.bindsN fun _ _ _ _ _ _ us hl => match us, hl with | [_], _ => rfl⟩
  · obtain ⟨r, dx, w, us, ws, i, k, d, l, post, rfl, _⟩ := h
    rfl
  obtain ⟨r, dx, w, us, ws, i, k, d, l, post, rfl, S, dn, kd, ok, l6, ed, q⟩ := h
  obtain ⟨f1, fd1, G1, m1, b1⟩ := c1.mono hL
  obtain ⟨f2, fd2, G2, m2, b2⟩ := c2.mono (show 2 ≤ L by omega)
  obtain ⟨f3, fd3, G3, m3, b3⟩ := c3
  have nd := sc_R_read_block.nd
  refine ⟨_, PSs.nox (pss_cons (ps_expr (pe_meth0 (pv 0) R.cls m1 G1 hr b1 .nil pass0))
    (pss_cons (ps_set (i := 1) nd rfl (.inl rfl) (pe_lst pa_nil))
    (pss_cons (ps_while PassesOwn.never (pt_cmpR op_ne (pe_meth0 (pv 0) R.cls m2 G2 hr b2 .nil pass0) pe_str (nomark _))
      (pss_one (ps_expr (pe_bm PySem.F.plainAttrs_list PySem.F.slot_list_append PySem.F.type_list_append mt_append (pv 1) (pa_cons (pe_meth (pv 0) R.cls m3 G3 hr b3 .nil pass0 (pa_cons pe_str pa_nil)) pa_nil)))))
    (pss_cons (ps_fld (pv 0) (pe_op op_add (pe_fld (pv 0) (by rfl)) pe_int) (by rfl))
    (pss_cons (ps_fld (pv 0) (pe_op op_sub (pe_fld (pv 0) (by rfl)) pe_int) (by rfl))
    (pss_one (ps_ret (pv 1)))))))), ?_⟩
  obtain ⟨e0, e1⟩ := drop_hd ed
  refine ⟨_, rfl, r, dx, _, rfl, S.rd, rfl, r, dx, w, us, ws, i, k, rfl, S, e0, ?_⟩
  have S1 := S.step e0 (show k + 1 ≤ 100 by omega)
  have k1 := S.kp (i + 1) (k + 1)
  refine ⟨Nat.zero_le _, fun o ho => ?_⟩
  have ro : r ≠ o := fun z => by rw [← z, upd_same] at ho; cases ho
  have ho0 : H o = none := by rw [upd_ne (Ne.symm ro)] at ho; exact ho
  obtain ⟨Wv, eW⟩ : ∃ Wv : Nat → L2.St → Hp → Prop, Wv = fun m σ H1 => ∃ (j : Nat) (vs : List V), m = l.length - j ∧ j ≤ l.length ∧ σ = [some (.ref r), some (.ref o)] ∧ Kp (· = r) H H1 ∧ H1 r = some (rdO C dx w (i + 1 + (toksL (l.take j)).length) (k + 1)) ∧ Bl K H H1 o vs (dataL (l.take j)) := ⟨_, rfl⟩
  refine ⟨Wv, ⟨l.length, ?_⟩, fun m σ H1 hw => ?_⟩
  · rw [eW]
    refine ⟨0, [], rfl, Nat.zero_le _, rfl, k1.trans (Kp.new ho), ?_, ?_⟩
    · rw [upd_ne ro, List.take_zero, toksL_nil]
      exact upd_same
    · rw [List.take_zero, dataL_nil]
      exact ⟨ho0, upd_same, .nil⟩
  rw [eW] at hw
  obtain ⟨j, vs, rfl, hj, rfl, kj, rj, bl⟩ := hw
  have edj : ws.drop (i + 1 + (toksL (l.take j)).length) = toksL (l.drop j) ++ kC :: post := drop_more (by rw [e1, ← List.append_assoc, ← toksL_app, List.take_append_drop])
  have Sj : RdS H1 r C dx w us ws (i + 1 + (toksL (l.take j)).length) (k + 1) := by
    refine S.next kj rj ?_ (by omega)
    have : (ws.drop (i + 1 + (toksL (l.take j)).length)).length ≠ 0 := by rw [edj, List.length_append, List.length_cons]; omega
    rw [List.length_drop] at this
    have := S.lu
    have := S.wd.len
    omega
  refine ⟨_, rfl, r, dx, _, rfl, Sj.rd, rfl, r, dx, w, us, ws, _, k + 1, rfl, Sj, ?_⟩
  rw [drop_at edj]
  by_cases hlt : j < l.length
  · have ej : l.drop j = l[j] :: l.drop (j + 1) := List.drop_eq_getElem_cons hlt
    obtain ⟨x, rest, ex, x1, x2, x3⟩ := tok_head l[j]
    have edj2 : ws.drop (i + 1 + (toksL (l.take j)).length) = l[j].toks ++ (toksL (l.drop (j + 1)) ++ kC :: post) := by rw [edj, ej, toksL_cons, List.append_assoc]
    rw [ej, toksL_cons, ex]
    refine ⟨rfl, _, rfl, ?_⟩
    have et : (!decide (V.str (((x :: rest ++ toksL (l.drop (j + 1)) ++ kC :: post).head?).getD "") = V.str kC)) = true := by
      show (!decide (V.str x = V.str kC)) = true
      rw [decide_eq_false (fun z => x1 (V.str.inj z))]
      rfl
    rw [et]
    have ed6 : (dataL (l.take j)).length ≤ 6 := by rw [dataL_map, List.length_map, List.length_take]; omega
    have vl := bl.len
    refine iteT ⟨fun σ' H' => ∃ m', m' < l.length - j ∧ Wv m' σ' H', fun σ' H' h => h, ?_⟩
    refine ⟨_, rfl, .inl ⟨rfl, _, SqL.of bl.at_⟩, _, rfl, r, dx, _, rfl, Sj.rd, rfl, r, dx, w, us, ws, _, k + 1, d, l[j], toksL (l.drop (j + 1)) ++ kC :: post, _, rfl, Sj, dn, kd, ok _ (List.getElem_mem hlt), edj2, head_else _ _ _ (by decide +kernel), fun v H2 AF => ?_⟩
    obtain ⟨k2, r2, d2⟩ := AF
    have o2 : H2 o = some (.lst vs) := k2.same _ _ (fun z => ro z.symm) bl.at_
    refine ⟨o, vs, v, rfl, rfl, o2, sizes1 (by omega), ?_⟩
    refine ⟨l.length - (j + 1), by omega, ?_⟩
    rw [eW]
    have etk : l.take (j + 1) = l.take j ++ [l[j]] := by rw [List.take_add_one, List.getElem?_eq_getElem hlt]; rfl
    refine ⟨j + 1, vs ++ [v], rfl, hlt, rfl, ⟨fun b u nb e => ?_, fun b hb e => ?_⟩, ?_, ?_⟩
    · rw [upd_ne (ne_of_none e ho0)]
      exact (kj.trans k2).same b u nb e
    · rw [upd_ne (show b ≠ o from fun z => ro (hb.symm.trans z))]
      exact (kj.trans k2).mt b hb e
    · rw [upd_ne ro, etk, toksL_app, toksL_one, List.length_append, ← Nat.add_assoc]
      exact r2
    · rw [etk, dataL_app, dataL_cons, dataL_nil]
      exact (bl.keep k2 (fun z => ro z.symm) S.mu).push kj bl.at_ d2
  · have ejl : j = l.length := by omega
    subst ejl
    rw [List.drop_length, toksL_nil]
    refine ⟨rfl, _, rfl, ?_⟩
    have et : (!decide (V.str (((([] : List Str) ++ kC :: post).head?).getD "") = V.str kC)) = false := by
      show (!decide (V.str kC = V.str kC)) = false
      rw [decide_eq_true rfl]
      rfl
    rw [et]
    rw [List.take_length] at Sj rj bl
    refine iteF ?_
    refine ⟨_, rfl, r, C, dx, _, _, rfl, Sj.rd, R.cls, R.na, lk_a _ _ _, _, _, rfl, rfl, _, rfl, r, C, dx, _, rfl, Sj.rd, R.cls, R.na, by show 3 < 1000; decide, ?_⟩
    refine ⟨_, rfl, r, C, dx, _, _, rfl, upd_same, R.cls, R.nb, rfl, _, _, rfl, rfl, _, rfl, r, C, dx, _, rfl, upd_same, R.cls, R.nb, by show 3 < 1000; decide, _, rfl, ?_⟩
    rw [upd_upd, put_a, put_c]
    have k9 : Kp (· = r) H1 (upd H1 r (rdO C dx w (i + 1 + (toksL l).length + 1) k)) := Kp.put rfl rfl
    exact q _ _ ⟨kj.trans k9, upd_same, (bl.keep k9 (fun z => ro z.symm) S.mu).done⟩
/-! ### read_if -/
theorem ok_if (R : RdC K C) {f : Addr} {fd : FuncData} (A : AtM K C d_R_read_if "read_if" f fd) {n L : Nat} (hL : 3 ≤ L) (c1 : CalM P w K mg base C "take_name" ["self"] 3 (spTake C okName)) (c2 : CalM P w K mg base C "peek" ["self"] 2 (spPeek C))
    (c3 : CalM P w K mg base C "read_block" ["self"] L (spBlR K C n)) : CalM P w K mg base C "read_if" ["self"] (L + 1) (spIfR K C n) := by
  refine ⟨f, fd, A.F.ok sc_R_read_if (fun vs H Q E h => ?_) (fun cdv A' outer s H vs Q E hr h => ?_), A.m, A.F.bindsN fun _ _ _ _ _ _ us hl => match us, hl with | [_], _ => rfl⟩
  · obtain ⟨r, dx, w, us, ws, i, k, d, x, a, b, post, rfl, _⟩ := h
    rfl
  obtain ⟨r, dx, w, us, ws, i, k, d, x, a, b, post, rfl, S, dn, kd, nk, oka, okb, la, lb, ed, hp, q⟩ := h
  obtain ⟨f1, fd1, G1, m1, b1⟩ := c1.mono hL
  obtain ⟨f2, fd2, G2, m2, b2⟩ := c2.mono (show 2 ≤ L by omega)
  obtain ⟨f3, fd3, G3, m3, b3⟩ := c3
  have nd := sc_R_read_if.nd
  refine ⟨_, PSs.nox (pss_cons (ps_set (i := 1) nd rfl (.inl rfl) (pe_meth0 (pv 0) R.cls m1 G1 hr b1 .nil pass0))
    (pss_cons (ps_set (i := 2) nd rfl (.inl rfl) (pe_meth0 (pv 0) R.cls m3 G3 hr b3 .nil pass0))
    (pss_cons (ps_set (i := 3) nd rfl (.inl rfl) (pe_lst pa_nil))
    (pss_mid (ps_if (pt_cmpR op_eq (pe_meth0 (pv 0) R.cls m2 G2 hr b2 .nil pass0) pe_str (nomark _))
      (pss_cons (ps_fld (pv 0) (pe_op op_add (pe_fld (pv 0) (by rfl)) pe_int) (by rfl))
      (pss_one (ps_set (i := 3) nd rfl (.inl rfl) (pe_meth0 (pv 0) R.cls m3 G3 hr b3 .nil pass0)))) pss_nil)
    (pss_one (ps_ret (pe_tup (pa_cons pe_str (pa_cons (pv 1) (pa_cons (pv 2) (pa_cons (pv 3) pa_nil))))))))))), ?_⟩
  obtain ⟨e0, e1⟩ := drop_hd ed
  -- the name
  refine ⟨_, rfl, r, dx, _, rfl, S.rd, rfl, r, dx, w, us, ws, i, k, x, _, rfl, S, e0, ⟨rfl, nk⟩, ?_⟩
  have S1 := S.step e0 S.lk
  have k1 := S.kp (i + 1) k
  generalize upd H r (rdO C dx w (i + 1) k) = H1 at S1 k1
  -- the first block
  refine ⟨_, rfl, r, dx, _, rfl, S1.rd, rfl, r, dx, w, us, ws, i + 1, k, d, a, elseT b ++ post, rfl, S1, dn, kd, oka, la, e1, fun va H2 AF => ?_⟩
  obtain ⟨k2, r2, d2⟩ := AF
  have e2 : ws.drop (i + 1 + 1 + (toksL a).length + 1) = elseT b ++ post := by
    obtain ⟨_, e3⟩ := drop_hd e1
    exact (drop_hd (drop_more e3)).2
  have S2 : RdS H2 r C dx w us ws (i + 1 + 1 + (toksL a).length + 1) k := by
    refine S1.next k2 r2 ?_ S.lk
    obtain ⟨_, e3⟩ := drop_hd e1
    exact S1.lt2 (drop_hd (drop_more e3)).1
  have k12 := k1.trans k2
  -- the second: none
  refine ⟨Nat.zero_le _, fun o ho => ?_⟩
  have ro : r ≠ o := ne_of_none S2.rd ho
  have k3 : Kp (· = r) H2 (upd H2 o (.lst [])) := Kp.new ho
  have r3 : upd H2 o (.lst []) r = some (rdO C dx w (i + 1 + 1 + (toksL a).length + 1) k) := by rw [upd_ne ro]; exact r2
  have S3 := S2.next k3 r3 S2.li S2.lk
  have do3 : Dp K (nw H2 (upd H2 o (.lst []))) (.ref o) (.list []) := .lst (SqL.of (nw_new ho upd_same)) .nil
  generalize upd H2 o (.lst []) = H3 at k3 r3 S3 do3
  refine ⟨fun σ H4 => ∃ vb, σ = [some (.ref r), some (.str x), some va, some vb] ∧ Kp (· = r) H2 H4 ∧ H4 r = some (rdO C dx w (i + 1 + 1 + (toksL a).length + 1 + (elseT b).length) k) ∧ Dp K (nw H2 H4) vb (.list (dataL b)), ?_, fun σ H4 hm => ?_⟩
  · refine ⟨_, rfl, r, dx, _, rfl, S3.rd, rfl, r, dx, w, us, ws, _, k, rfl, S3, ?_⟩
    rw [drop_at e2]
    cases hb : b.isEmpty with
    | true =>
      have eb : b = [] := List.isEmpty_iff.mp hb
      have ee : elseT b = [] := by unfold elseT; rw [hb]; rfl
      rw [ee]
      have et : decide (V.str ((([] ++ post).head?).getD "") = V.str kE) = false := decide_eq_false fun z => by
        have z2 := V.str.inj z
        cases post with
        | nil => exact absurd z2 (by decide +kernel)
        | cons y t => exact hp (congrArg some z2)
      refine ⟨rfl, _, rfl, ?_⟩
      rw [et]
      refine iteF ⟨.ref o, rfl, k3, r3, ?_⟩
      rw [eb, dataL_nil]
      exact do3
    | false =>
      have ee : elseT b = kE :: kO :: (toksL b ++ [kC]) := by unfold elseT; rw [hb]; rfl
      rw [ee] at e2 ⊢
      have e3 : ws.drop (i + 1 + 1 + (toksL a).length + 1) = kE :: (kO :: (toksL b ++ kC :: post)) := by rw [e2]; simp
      obtain ⟨e4, e5⟩ := drop_hd e3
      have et : decide (V.str (((kE :: kO :: (toksL b ++ [kC]) ++ post).head?).getD "") = V.str kE) = true := decide_eq_true rfl
      refine ⟨rfl, _, rfl, ?_⟩
      rw [et]
      refine iteT ⟨_, rfl, r, C, dx, _, _, rfl, S3.rd, R.cls, R.na, lk_a _ _ _, _, _, rfl, rfl, _, rfl, r, C, dx, _, rfl, S3.rd, R.cls, R.na, by show 3 < 1000; decide, ?_⟩
      rw [put_a]
      have S4 := S3.step e4 S.lk
      have k4 := S3.kp (i + 1 + 1 + (toksL a).length + 1 + 1) k
      refine ⟨_, rfl, r, dx, _, rfl, S4.rd, rfl, r, dx, w, us, ws, _, k, d, b, post, rfl, S4, dn, kd, okb, lb, e5, fun vb H5 AF => ?_⟩
      obtain ⟨k5, r5, d5⟩ := AF
      refine ⟨vb, rfl, (k3.trans k4).trans k5, ?_, dp_made (k3.trans k4) Kp.refl S2.mu d5⟩
      rw [List.length_cons, List.length_cons, List.length_append, List.length_singleton]
      rw [show i + 1 + 1 + (toksL a).length + 1 + ((toksL b).length + 1 + 1 + 1) = i + 1 + 1 + (toksL a).length + 1 + 1 + 1 + (toksL b).length + 1 by omega]
      exact r5
  · obtain ⟨vb, rfl, k4, r4, d4⟩ := hm
    refine ⟨_, rfl, _, rfl, _, rfl, sizes (by show 4 ≤ 100000; decide), fun p hp => ?_⟩
    have rp : r ≠ p := ne_of_none r4 hp
    have k5 : Kp (· = r) H4 (upd H4 p (.tup [.str "if", .str x, va, vb])) := Kp.new hp
    have k14 := k12.trans (k4.trans k5)
    refine q _ _ ⟨k14, ?_, ?_⟩
    · rw [upd_ne rp, show i + 1 + (1 + (toksL a).length + 1) = i + 1 + 1 + (toksL a).length + 1 by omega]
      exact r4
    · rw [data_iff]
      exact dp_tuple ((k12.trans k4).free (fun z => rp z.symm) hp) (.cons (.str _) (.cons (.str _) (.cons (dp_made k1 (k4.trans k5) S.mu d2) (.cons (dp_made k12 k5 S.mu d4) .nil))))
/-! ### read_statement -/
theorem ok_st (R : RdC K C) (G : Gb K mg) {f : Addr} {fd : FuncData} (A : AtM K C d_R_read_statement "read_statement" f fd) {n L : Nat} (hL : 4 ≤ L) (c1 : CalM P w K mg base C "peek" ["self"] 2 (spPeek C)) (c2 : CalM P w K mg base C "take" ["self"] 1 (spTake C okTake))
    (c3 : CalM P w K mg base C "read_plain" ["self", "word"] 4 (spPlainR K C)) (c4 : CalM P w K mg base C "take_count" ["self"] 3 (spTake C okCount)) (c5 : CalM P w K mg base C "read_block" ["self"] L (spBlR K C n)) (c6 : CalM P w K mg base C "read_if" ["self"] L (spIfR K C n)) :
    CalM P w K mg base C "read_statement" ["self", "expected"] (L + 1) (spStR K C (n + 1)) := by
  refine ⟨f, fd, A.F.ok sc_R_read_statement (fun vs H Q E h => ?_) (fun cdv A' outer s H vs Q E hr h => ?_), A.m, A.F.bindsN fun _ _ _ _ _ _ us hl => match us, hl with | [_, _], _ => rfl⟩
  · obtain ⟨r, dx, w, us, ws, i, k, d, s, post, e, rfl, _⟩ := h
    rfl
  obtain ⟨r, dx, w, us, ws, i, k, d, st, post, e, rfl, S, dn, kd, ok, ed, hp, q⟩ := h
  obtain ⟨f1, fd1, G1, m1, b1⟩ := c1.mono (show 2 ≤ L by omega)
  obtain ⟨f2, fd2, G2, m2, b2⟩ := c2.mono (show 1 ≤ L by omega)
  obtain ⟨f3, fd3, G3, m3, b3⟩ := c3.mono hL
  obtain ⟨f4, fd4, G4, m4, b4⟩ := c4.mono (show 3 ≤ L by omega)
  obtain ⟨f5, fd5, G5, m5, b5⟩ := c5
  obtain ⟨f6, fd6, G6, m6, b6⟩ := c6
  obtain ⟨u1, mm, rm⟩ := G.brs
  have nd := sc_R_read_statement.nd
  refine ⟨_, PSs.nox (pss_cons (ps_set (i := 2) nd rfl (.inl rfl) (pe_meth0 (pv 0) R.cls m1 G1 hr b1 .nil pass0))
    (pss_cons (ps_if (PW.pt (pw_and (PW.pt (pw_or (pt_cmpR op_eq (pv 2) pe_str (nomark _)) (pw_or1 (pt_cmpR op_eq (pv 2) pe_str (nomark _))))) (pw_and1 (pt_cmpR op_ge (pe_fld (pv 0) (by rfl)) (pe_glob (by rfl) mm rm) (nomark _))))) pss_never pss_nil)
    (pss_cons (ps_if (pt_cmpR op_in_seq (pv 2) (pe_tup (pa_cons pe_str (pa_cons pe_str (pa_cons pe_str (pa_cons pe_str (pa_cons pe_str (pa_cons pe_str pa_nil))))))) (by rfl))
      (pss_one (ps_ret (pe_meth (pv 0) R.cls m3 G3 hr b3 .nil pass0 (pa_cons (pe_meth0 (pv 0) R.cls m2 G2 hr b2 .nil pass0) pa_nil)))) pss_nil)
    (pss_cons (ps_if (pt_cmpR op_eq (pv 2) pe_str (nomark _))
      (pss_cons (ps_fld (pv 0) (pe_op op_add (pe_fld (pv 0) (by rfl)) pe_int) (by rfl)) (pss_one (ps_ret (pe_meth0 (pv 0) R.cls m6 G6 hr b6 .nil pass0)))) pss_nil)
    (pss_cons (ps_if (pt_cmpR op_eq (pv 2) pe_str (nomark _))
      (pss_cons (ps_fld (pv 0) (pe_op op_add (pe_fld (pv 0) (by rfl)) pe_int) (by rfl))
      (pss_cons (ps_set (i := 3) nd rfl (.inl rfl) (pe_meth0 (pv 0) R.cls m4 G4 hr b4 .nil pass0))
      (pss_one (ps_ret (pe_tup (pa_cons pe_str (pa_cons (pv 3) (pa_cons (pe_meth0 (pv 0) R.cls m5 G5 hr b5 .nil pass0) pa_nil)))))))) pss_nil)
    (pss_one ps_never)))))), ?_⟩
  refine ⟨_, rfl, r, dx, _, rfl, S.rd, rfl, r, dx, w, us, ws, i, k, rfl, S, ?_⟩
  rw [drop_at ed]
  have six : ∀ (x : Str), (if (false : Bool) = true then !inV (V.str x) (pk.map V.str) else inV (V.str x) (pk.map V.str)) = decide (x ∈ pk) := fun x => inV_str x pk
  cases st with
  | pl p =>
    obtain ⟨kw, rest, et, hm⟩ := pl_kw p
    rw [toks_pl] at ed q ⊢
    rw [et] at ed q ⊢
    obtain ⟨n1, n2, _⟩ := pk_ne kw hm
    obtain ⟨e0, e1⟩ := drop_hd (show ws.drop i = kw :: (rest ++ post) from ed)
    show tSeq _ _ _ [some (.ref r), some e, some (.str kw), none] H
    refine ⟨_, rfl, rfl, _, rfl, itN n1 ⟨_, rfl, rfl, _, rfl, itN n2 (iteF ?_)⟩⟩
    refine ⟨_, rfl, sizes (by show 6 ≤ 100000; decide), fun p0 hp0 => ?_⟩
    have rp : r ≠ p0 := ne_of_none S.rd hp0
    have k1 : Kp (· = r) H (upd H p0 (.tup (pk.map V.str))) := Kp.new hp0
    have S1 := S.next k1 (by rw [upd_ne rp]; exact S.rd) S.li S.lk
    refine ⟨p0, pk.map V.str, rfl, .inr (SqT.of upd_same), rfl, flat_strs _, _, rfl, ?_⟩
    rw [six, decide_eq_true hm]
    refine iteT ?_
    refine ⟨_, rfl, r, dx, _, rfl, S1.rd, rfl, _, rfl, r, dx, _, rfl, S1.rd, rfl, r, dx, w, us, ws, i, k, kw, _, rfl, S1, e0, rfl, ?_⟩
    have S2 := S1.step e0 S.lk
    refine ⟨r, dx, w, us, ws, i + 1, k, p, kw, rest, post, rfl, S2, ok_pl ok, et, e1, fun v H' AF => q v H' ?_⟩
    rw [data_pl, show i + (kw :: rest).length = i + 1 + rest.length by rw [List.length_cons]; omega]
    exact After.lift (k1.trans (S1.kp (i + 1) k)) S.mu AF
  | iff x a b =>
    obtain ⟨c, rfl⟩ : ∃ c, d = c + 1 := by
      cases d with
      | zero => exact ok.elim
      | succ c => exact ⟨c, rfl⟩
    obtain ⟨nk, la, lb, oka, okb⟩ := ok
    rw [toks_iff] at ed q ⊢
    obtain ⟨e0, e1⟩ := drop_hd (show ws.drop i = ("if" : Str) :: (x :: kO :: (toksL a ++ (kC :: elseT b)) ++ post) from ed)
    have e2 : ws.drop (i + 1) = x :: (kO :: (toksL a ++ kC :: (elseT b ++ post))) := by rw [e1]; simp
    show tSeq _ _ _ [some (.ref r), some e, some (.str "if"), none] H
    refine ⟨_, rfl, rfl, _, rfl, itS rfl ⟨_, rfl, r, C, dx, _, _, rfl, S.rd, R.cls, R.nb, lk_b _ _ _, _, _, rfl, rfl, _, rfl, ?_⟩⟩
    rw [decide_eq_false (show ¬ (8 : Int) ≤ (k : Int) by omega)]
    refine iteF ?_
    refine ⟨_, rfl, sizes (by show 6 ≤ 100000; decide), fun p0 hp0 => ?_⟩
    have rp : r ≠ p0 := ne_of_none S.rd hp0
    have k1 : Kp (· = r) H (upd H p0 (.tup (pk.map V.str))) := Kp.new hp0
    have S1 := S.next k1 (by rw [upd_ne rp]; exact S.rd) S.li S.lk
    refine ⟨p0, pk.map V.str, rfl, .inr (SqT.of upd_same), rfl, flat_strs _, _, rfl, ?_⟩
    rw [six, decide_eq_false (show ("if" : Str) ∉ pk by decide +kernel)]
    refine iteF ⟨_, rfl, rfl, _, rfl, itS rfl ?_⟩
    refine ⟨_, rfl, r, C, dx, _, _, rfl, S1.rd, R.cls, R.na, lk_a _ _ _, _, _, rfl, rfl, _, rfl, r, C, dx, _, rfl, S1.rd, R.cls, R.na, by show 3 < 1000; decide, ?_⟩
    rw [put_a]
    have S2 := S1.step e0 S.lk
    refine ⟨_, rfl, r, dx, _, rfl, S2.rd, rfl, r, dx, w, us, ws, i + 1, k, c, x, a, b, post, rfl, S2, by omega, by omega, nk, oka, okb, by omega, by omega, e2, hp, fun v H' AF => q v H' ?_⟩
    have el : i + (("if" : Str) :: x :: kO :: (toksL a ++ kC :: elseT b)).length = i + 1 + 1 + (1 + (toksL a).length + 1) + (elseT b).length := by
      rw [List.length_cons, List.length_cons, List.length_cons, List.length_append, List.length_cons]
      omega
    have AF2 := After.lift (k1.trans (S1.kp (i + 1) k)) S.mu AF
    rw [← el] at AF2
    exact AF2
  | rep n a =>
    obtain ⟨c, rfl⟩ : ∃ c, d = c + 1 := by
      cases d with
      | zero => exact ok.elim
      | succ c => exact ⟨c, rfl⟩
    obtain ⟨n1, n3, la, oka⟩ := ok
    rw [toks_rep] at ed q ⊢
    obtain ⟨e0, e1⟩ := drop_hd (show ws.drop i = ("repeat" : Str) :: (numS n :: kO :: (toksL a ++ [kC]) ++ post) from ed)
    obtain ⟨e2, e3⟩ := drop_hd (show ws.drop (i + 1) = numS n :: (kO :: (toksL a ++ [kC]) ++ post) from e1)
    have e4 : ws.drop (i + 1 + 1) = kO :: (toksL a ++ kC :: post) := by rw [e3]; simp
    show tSeq _ _ _ [some (.ref r), some e, some (.str "repeat"), none] H
    refine ⟨_, rfl, rfl, _, rfl, itN (by decide +kernel) ⟨_, rfl, rfl, _, rfl, itS rfl ⟨_, rfl, r, C, dx, _, _, rfl, S.rd, R.cls, R.nb, lk_b _ _ _, _, _, rfl, rfl, _, rfl, ?_⟩⟩⟩
    rw [decide_eq_false (show ¬ (8 : Int) ≤ (k : Int) by omega)]
    refine iteF ?_
    refine ⟨_, rfl, sizes (by show 6 ≤ 100000; decide), fun p0 hp0 => ?_⟩
    have rp : r ≠ p0 := ne_of_none S.rd hp0
    have k1 : Kp (· = r) H (upd H p0 (.tup (pk.map V.str))) := Kp.new hp0
    have S1 := S.next k1 (by rw [upd_ne rp]; exact S.rd) S.li S.lk
    refine ⟨p0, pk.map V.str, rfl, .inr (SqT.of upd_same), rfl, flat_strs _, _, rfl, ?_⟩
    rw [six, decide_eq_false (show ("repeat" : Str) ∉ pk by decide +kernel)]
    refine iteF ⟨_, rfl, rfl, _, rfl, itN (by decide +kernel) ⟨_, rfl, rfl, _, rfl, itS rfl ?_⟩⟩
    refine ⟨_, rfl, r, C, dx, _, _, rfl, S1.rd, R.cls, R.na, lk_a _ _ _, _, _, rfl, rfl, _, rfl, r, C, dx, _, rfl, S1.rd, R.cls, R.na, by show 3 < 1000; decide, ?_⟩
    rw [put_a]
    have S2 := S1.step e0 S.lk
    have k2 := k1.trans (S1.kp (i + 1) k)
    refine ⟨_, rfl, r, dx, _, rfl, S2.rd, rfl, r, dx, w, us, ws, i + 1, k, _, _, rfl, S2, e2, ⟨n, rfl, rfl, n1, n3⟩, ?_⟩
    have S3 := S2.step e2 S.lk
    have k3 := k2.trans (S2.kp (i + 1 + 1) k)
    refine ⟨_, rfl, _, rfl, r, dx, _, rfl, S3.rd, rfl, r, dx, w, us, ws, i + 1 + 1, k, c, a, post, rfl, S3, by omega, by omega, oka, by omega, e4, fun v H' AF => ?_⟩
    obtain ⟨k4, r4, d4⟩ := AF
    refine ⟨sizes (by show 3 ≤ 100000; decide), fun p hp1 => ?_⟩
    have rp1 : r ≠ p := ne_of_none r4 hp1
    have k5 : Kp (· = r) H' (upd H' p (.tup [.str "repeat", .int (n : Int), v])) := Kp.new hp1
    refine q _ _ ⟨(k3.trans k4).trans k5, ?_, ?_⟩
    · rw [upd_ne rp1, List.length_cons, List.length_cons, List.length_cons, List.length_append, List.length_singleton, show i + ((toksL a).length + 1 + 1 + 1 + 1) = i + 1 + 1 + 1 + (toksL a).length + 1 by omega]
      exact r4
    · rw [data_rep]
      exact dp_tuple ((k3.trans k4).free (fun z => rp1 z.symm) hp1) (.cons (.str _) (.cons (.int _) (.cons (dp_made k3 k5 S.mu d4) .nil)))
end
end K53

/-! KJ3 -/
/-! the reader: routines -/
namespace K53
open PySem PySem.Spec PyProof.Rows L2
section
variable {P : Program} {w : World} {K : PySem.W.Frag} {mg : Str → Option Value} {base : Heap} {C : Addr}
/-- where the reader's methods stand -/
structure RdM (K : PySem.W.Frag) (C : Addr) : Prop where
  blk : ∃ f fd, AtM K C d_R_read_block "read_block" f fd
  st : ∃ f fd, AtM K C d_R_read_statement "read_statement" f fd
  iff_ : ∃ f fd, AtM K C d_R_read_if "read_if" f fd
theorem cal_st (R : RdC K C) (G : Gb K mg) (M : RdM K C) (c1 : CalM P w K mg base C "peek" ["self"] 2 (spPeek C)) (c2 : CalM P w K mg base C "take" ["self"] 1 (spTake C okTake))
    (c3 : CalM P w K mg base C "read_plain" ["self", "word"] 4 (spPlainR K C)) (c4 : CalM P w K mg base C "take_count" ["self"] 3 (spTake C okCount)) (c5 : CalM P w K mg base C "open_brace" ["self"] 3 (spOpen C)) (c6 : CalM P w K mg base C "take_name" ["self"] 3 (spTake C okName)) :
    ∀ n, CalM P w K mg base C "read_statement" ["self", "expected"] (4 + 3 * n) (spStR K C n)
  | 0 => by
    obtain ⟨f, fd, A⟩ := M.st
    exact ⟨f, fd, vac fun vs H Q E h => by
      obtain ⟨r, dx, w, us, ws, i, k, d, s, post, e, _, _, dn, _⟩ := h
      exact absurd dn (Nat.not_lt_zero _), A.m, A.F.bindsN fun _ _ _ _ _ _ us hl => match us, hl with | [_, _], _ => rfl⟩
  | n + 1 => by
    obtain ⟨f, fd, A⟩ := M.st
    obtain ⟨f2, fd2, A2⟩ := M.blk
    obtain ⟨f3, fd3, A3⟩ := M.iff_
    have ih := cal_st R G M c1 c2 c3 c4 c5 c6 n
    have bl := ok_block R A2 (show 3 ≤ 4 + 3 * n by omega) c5 c1 ih
    have i_ := ok_if R A3 (show 3 ≤ 4 + 3 * n + 1 by omega) c6 c1 bl
    exact ok_st R G A (show 4 ≤ 4 + 3 * n + 1 + 1 by omega) c1 c2 c3 c4 (bl.mono (Nat.le_succ _)) i_
theorem cal_block (R : RdC K C) (G : Gb K mg) (M : RdM K C) (c1 : CalM P w K mg base C "peek" ["self"] 2 (spPeek C)) (c2 : CalM P w K mg base C "take" ["self"] 1 (spTake C okTake))
    (c3 : CalM P w K mg base C "read_plain" ["self", "word"] 4 (spPlainR K C)) (c4 : CalM P w K mg base C "take_count" ["self"] 3 (spTake C okCount)) (c5 : CalM P w K mg base C "open_brace" ["self"] 3 (spOpen C)) (c6 : CalM P w K mg base C "take_name" ["self"] 3 (spTake C okName)) :
    CalM P w K mg base C "read_block" ["self"] 11 (spBlR K C 2) := by
  obtain ⟨f2, fd2, A2⟩ := M.blk
  exact ok_block R A2 (by decide) c5 c1 (cal_st R G M c1 c2 c3 c4 c5 c6 2)
/-! ### read_routine -/
abbrev kR : Str := "routine"
def spRtR (K : PySem.W.Frag) (C : Addr) : Sp := fun vs H Q _ => ∃ (r dx w nl : Addr) (us : List V) (ws : List Str) (i : Nat) (x : Str) (l : List S) (xs post : List Str), vs = [.ref r, .ref nl] ∧ RdS H r C dx w us ws i 0 ∧
  SqL K H nl (xs.map V.str) ∧ nl ≠ r ∧ x ∉ xs ∧ NameOk x ∧ OkL 1 l ∧ l.length ≤ 6 ∧ ws.drop i = toksR (x, l) ++ post ∧ ∀ v H', After K H r C dx w (i + (toksR (x, l)).length) 0 (dataR (x, l)) v H' → Q v H'
theorem ok_read_routine (R : RdC K C) {f : Addr} {fd : FuncData} (A : AtM K C d_R_read_routine "read_routine" f fd) (c1 : CalM P w K mg base C "peek" ["self"] 2 (spPeek C)) (c2 : CalM P w K mg base C "take_name" ["self"] 3 (spTake C okName))
    (c3 : CalM P w K mg base C "read_block" ["self"] 11 (spBlR K C 2)) : CalM P w K mg base C "read_routine" ["self", "names"] 12 (spRtR K C) := by
  refine ⟨f, fd, A.F.ok sc_R_read_routine (fun vs H Q E h => ?_) (fun cdv A' outer s H vs Q E hr h => ?_), A.m, A.F.bindsN fun _ _ _ _ _ _ us hl => match us, hl with | [_, _], _ => rfl⟩
  · obtain ⟨r, dx, w, nl, us, ws, i, x, l, xs, post, rfl, _⟩ := h
    rfl
  obtain ⟨r, dx, w, nl, us, ws, i, x, l, xs, post, rfl, S, hn, nr, nx, nk, ok, l6, ed, q⟩ := h
  obtain ⟨f1, fd1, G1, m1, b1⟩ := c1.mono (show 2 ≤ 11 by decide)
  obtain ⟨f2, fd2, G2, m2, b2⟩ := c2.mono (show 3 ≤ 11 by decide)
  obtain ⟨f3, fd3, G3, m3, b3⟩ := c3
  have nd := sc_R_read_routine.nd
  refine ⟨_, PSs.nox (pss_cons (ps_fld (pv 0) (pe_op op_add (pe_fld (pv 0) (by rfl)) pe_int) (by rfl))
    (pss_cons (ps_if (pt_cmpR op_in_seq (pe_meth0 (pv 0) R.cls m1 G1 hr b1 .nil pass0) (pv 1) (by rfl)) pss_never pss_nil)
    (pss_cons (ps_set (i := 2) nd rfl (.inl rfl) (pe_meth0 (pv 0) R.cls m2 G2 hr b2 .nil pass0))
    (pss_one (ps_ret (pe_tup (pa_cons (pv 2) (pa_cons (pe_meth0 (pv 0) R.cls m3 G3 hr b3 .nil pass0) pa_nil)))))))), ?_⟩
  obtain ⟨e0, e1⟩ := drop_hd (show ws.drop i = kR :: (x :: kO :: (toksL l ++ [kC]) ++ post) from ed)
  obtain ⟨e2, e3⟩ := drop_hd (show ws.drop (i + 1) = x :: (kO :: (toksL l ++ [kC]) ++ post) from e1)
  have e4 : ws.drop (i + 1 + 1) = kO :: (toksL l ++ kC :: post) := by rw [e3]; simp
  refine ⟨_, rfl, r, C, dx, _, _, rfl, S.rd, R.cls, R.na, lk_a _ _ _, _, _, rfl, rfl, _, rfl, r, C, dx, _, rfl, S.rd, R.cls, R.na, by show 3 < 1000; decide, ?_⟩
  rw [put_a]
  have S1 := S.step e0 S.lk
  have k1 := S.kp (i + 1) 0
  have hn1 : SqL K (upd H r (rdO C dx w (i + 1) 0)) nl (xs.map V.str) := k1.seq nr hn
  refine ⟨_, rfl, r, dx, _, rfl, S1.rd, rfl, r, dx, w, us, ws, i + 1, 0, rfl, S1, _, rfl, nl, _, rfl, .inl hn1, rfl, flat_strs _, _, rfl, ?_⟩
  rw [e2, show (if (false : Bool) = true then !inV (V.str ((some x).getD "")) (xs.map V.str) else inV (V.str ((some x).getD "")) (xs.map V.str)) = decide (x ∈ xs) from inV_str x xs, decide_eq_false nx]
  refine iteF ?_
  refine ⟨_, rfl, r, dx, _, rfl, S1.rd, rfl, r, dx, w, us, ws, i + 1, 0, x, _, rfl, S1, e2, ⟨rfl, nk⟩, ?_⟩
  have S2 := S1.step e2 S.lk
  have k2 := k1.trans (S1.kp (i + 1 + 1) 0)
  refine ⟨_, rfl, _, rfl, r, dx, _, rfl, S2.rd, rfl, r, dx, w, us, ws, i + 1 + 1, 0, 1, l, post, rfl, S2, by decide, by decide, ok, l6, e4, fun v H' AF => ?_⟩
  obtain ⟨k4, r4, d4⟩ := AF
  refine ⟨sizes (by show 2 ≤ 100000; decide), fun p hp1 => ?_⟩
  have rp1 : r ≠ p := ne_of_none r4 hp1
  have k5 : Kp (· = r) H' (upd H' p (.tup [.str x, v])) := Kp.new hp1
  refine q _ _ ⟨(k2.trans k4).trans k5, ?_, dp_tuple ((k2.trans k4).free (fun z => rp1 z.symm) hp1) (.cons (.str _) (.cons (dp_made k2 k5 S.mu d4) .nil))⟩
  have el : (toksR (x, l)).length = (toksL l).length + 4 := by
    unfold toksR
    rw [List.length_cons, List.length_cons, List.length_cons, List.length_append, List.length_singleton]
  rw [upd_ne rp1, el, show i + ((toksL l).length + 4) = i + 1 + 1 + 1 + (toksL l).length + 1 by omega]
  exact r4
/-! ### read_routines -/
def toksRs (rs : List (Str × List S)) : List Str := rs.flatMap toksR
theorem toksRs_app (a b : List (Str × List S)) : toksRs (a ++ b) = toksRs a ++ toksRs b := List.flatMap_append
theorem toksRs_one (r : Str × List S) : toksRs [r] = toksR r := by
  show toksR r ++ [] = _
  rw [List.append_nil]
theorem toksRs_cons (r : Str × List S) (b : List (Str × List S)) : toksRs (r :: b) = toksR r ++ toksRs b := List.flatMap_cons
def spRtsR (K : PySem.W.Frag) (C : Addr) : Sp := fun vs H Q _ => ∃ (r dx w : Addr) (us : List V) (ws : List Str) (i : Nat) (rs : List (Str × List S)) (post : List Str), vs = [.ref r] ∧ RdS H r C dx w us ws i 0 ∧
  rs.length ≤ 3 ∧ (∀ m ∈ rs, NameOk m.1 ∧ m.2.length ≤ 6 ∧ OkL 1 m.2) ∧ (rs.map (·.1)).Nodup ∧ ws.drop i = toksRs rs ++ post ∧ post.head? ≠ some kR ∧ ∀ v H', After K H r C dx w (i + (toksRs rs).length) 0 (.list (rs.map dataR)) v H' → Q v H'
theorem ok_read_routines (B : Bi mg) (G : Gb K mg) (R : RdC K C) {f : Addr} {fd : FuncData} (A : AtM K C d_R_read_routines "read_routines" f fd) (c1 : CalM P w K mg base C "peek" ["self"] 2 (spPeek C)) (c2 : CalM P w K mg base C "read_routine" ["self", "names"] 12 (spRtR K C)) :
    CalM P w K mg base C "read_routines" ["self"] 13 (spRtsR K C) := by
  refine ⟨f, fd, A.F.ok sc_R_read_routines (fun vs H Q E h => ?_) (fun cdv A' outer s H vs Q E hr h => ?_), A.m, A.F.bindsN fun _ _ _ _ _ _ us hl => match us, hl with | [_], _ => rfl⟩
  · obtain ⟨r, dx, w, us, ws, i, rs, post, rfl, _⟩ := h
    rfl
  obtain ⟨r, dx, w, us, ws, i, rs, post, rfl, S, r3, names, ndr, ed, hp, q⟩ := h
  obtain ⟨f1, fd1, G1, m1, b1⟩ := c1.mono (show 2 ≤ 12 by decide)
  obtain ⟨f2, fd2, G2, m2, b2⟩ := c2
  obtain ⟨u1, mm, rm⟩ := G.rts
  have nd := sc_R_read_routines.nd
  refine ⟨_, PSs.nox (pss_cons (ps_set (i := 1) nd rfl (.inl rfl) (pe_lst pa_nil))
    (pss_cons (ps_while PassesOwn.never (PW.pt (pw_and (pt_cmpR op_eq (pe_meth0 (pv 0) R.cls m1 G1 hr b1 .nil pass0) pe_str (nomark _)) (pw_and1 (pt_cmpR op_lt (pe_callB call_len_seq (by rfl) B.len PySem.boot_len (pa_cons (pv 1) pa_nil)) (pe_glob (by rfl) mm rm) (nomark _)))))
      (pss_one (ps_expr (pe_bm PySem.F.plainAttrs_list PySem.F.slot_list_append PySem.F.type_list_append mt_append (pv 1) (pa_cons (pe_meth (pv 0) R.cls m2 G2 hr b2 .nil pass0 (pa_cons
        (pe_lc (own := [("name", 2), ("_", 3)]) (g := gTup K 2 (gCons (gName 2) (gCons (gName 3) gNil))) (tt := tYes) (by rfl) nd (pi_list (pv 1)) (blkOk_by (N := ["self", "routines", "name", "_"]) (sc := defScope s_R_read_routines) (by decide +kernel))
        (fun _ _ _ _ _ => pg_tup (by rfl) (pgs_cons (pg_name (i := 2) nd rfl (.inl rfl)) (pgs_cons (pg_name (i := 3) nd rfl (.inl rfl)) pgs_nil))) (fun _ _ _ _ _ => pts_nil) (fun _ _ _ _ _ => pv 2)) pa_nil)) pa_nil)))))
    (pss_one (ps_ret (pv 1))))), ?_⟩
  refine ⟨Nat.zero_le _, fun o ho => ?_⟩
  have ro : r ≠ o := ne_of_none S.rd ho
  obtain ⟨Wv, eW⟩ : ∃ Wv : Nat → L2.St → Hp → Prop, Wv = fun m σ H1 => ∃ (j : Nat) (vs : List V) (y2 y3 : Option V), m = rs.length - j ∧ j ≤ rs.length ∧ σ = [some (.ref r), some (.ref o), y2, y3] ∧ Kp (· = r) H H1 ∧ H1 r = some (rdO C dx w (i + (toksRs (rs.take j)).length) 0) ∧ Bl K H H1 o vs ((rs.take j).map dataR) := ⟨_, rfl⟩
  refine ⟨Wv, ⟨rs.length, ?_⟩, fun m σ H1 hw => ?_⟩
  · rw [eW]
    refine ⟨0, [], _, _, rfl, Nat.zero_le _, rfl, Kp.new ho, ?_, ?_⟩
    · rw [upd_ne ro]
      exact S.rd
    · exact ⟨ho, upd_same, .nil⟩
  rw [eW] at hw
  obtain ⟨j, vs, y2, y3, rfl, hj, rfl, kj, rj, bl⟩ := hw
  have edj : ws.drop (i + (toksRs (rs.take j)).length) = toksRs (rs.drop j) ++ post := drop_more (by rw [ed, ← List.append_assoc, ← toksRs_app, List.take_append_drop])
  have iz : i + (toksRs (rs.take j)).length ≤ 100000 := by
    by_cases z : i + (toksRs (rs.take j)).length ≤ ws.length
    · have := S.lu
      have := S.wd.len
      omega
    · have e0 : ws.drop i = toksRs (rs.take j) ++ (toksRs (rs.drop j) ++ post) := by rw [ed, ← List.append_assoc, ← toksRs_app, List.take_append_drop]
      have e1 := congrArg List.length e0
      rw [List.length_drop, List.length_append] at e1
      have := S.li
      omega
  have Sj : RdS H1 r C dx w us ws (i + (toksRs (rs.take j)).length) 0 := S.next kj rj iz (by decide)
  have vl := bl.len
  rw [List.length_map, List.length_take] at vl
  refine ⟨_, rfl, r, dx, _, rfl, Sj.rd, rfl, r, dx, w, us, ws, _, 0, rfl, Sj, ?_⟩
  rw [drop_at edj]
  by_cases hlt : j < rs.length
  · have ej : rs.drop j = rs[j] :: rs.drop (j + 1) := List.drop_eq_getElem_cons hlt
    obtain ⟨nk, l6, okl⟩ := names _ (List.getElem_mem hlt)
    have edj2 : ws.drop (i + (toksRs (rs.take j)).length) = toksR rs[j] ++ (toksRs (rs.drop (j + 1)) ++ post) := by rw [edj, ej, toksRs_cons, List.append_assoc]
    rw [ej, toksRs_cons]
    refine ⟨rfl, _, rfl, itS rfl ?_⟩
    refine ⟨_, rfl, o, vs, rfl, .inl (SqL.of bl.at_), _, _, rfl, rfl, _, rfl, ?_⟩
    rw [decide_eq_true (show ((vs.length : Nat) : Int) < 12 by omega)]
    refine iteT ⟨fun σ' H' => ∃ m', m' < rs.length - j ∧ Wv m' σ' H', fun σ' H' h => h, ?_⟩
    refine ⟨_, rfl, .inl ⟨rfl, _, SqL.of bl.at_⟩, _, rfl, r, dx, _, rfl, Sj.rd, rfl, ?_⟩
    -- the names
    refine ⟨_, rfl, o, rfl, ⟨_, SqL.of bl.at_⟩, fun D hDn => ?_⟩
    have oD : o ≠ D := ne_of_none bl.at_ hDn
    have rD : r ≠ D := ne_of_none Sj.rd hDn
    refine lc_list (K := K) (a := o) (xs := vs) (fun n H4 => (∃ G : Hp, Same H1 G ∧ H4 = upd G D (.lst (((rs.take j).take n).map fun r => V.str r.1)) ∧ G D = none)) ⟨H1, Same.refl _, rfl, hDn⟩ (fun n H4 _ hp => ?_) (fun n x H4 hx hp => ?_) (fun H4 hp => ?_)
    · obtain ⟨G, sG, rfl, nG⟩ := hp
      exact SqL.of (by rw [upd_ne oD]; exact sG _ _ bl.at_)
    · obtain ⟨G, sG, rfl, nG⟩ := hp
      obtain ⟨dat, hdat, hdx⟩ := all_get bl.items hx
      obtain ⟨rr, hr', rfl, hmem⟩ := rt_get hdat
      obtain ⟨p, u, us', rfl, hT, _⟩ := rtAt hdx
      have hT1 : SqT K H1 p [.str rr.1, .ref u] := Same.sqt (nw_le _ _) (Same.sqt wo_le hT)
      refine ⟨p, _, rfl, Same.sqt (same_new nG) (Same.sqt sG hT1), rfl, _, _, rfl, _, _, rfl, rfl, ?_⟩
      refine ⟨rfl, ?_⟩
      refine ⟨_, rfl, _, upd_same, sizes1 (by rw [List.length_map, List.length_take, List.length_take]; omega), G, sG, ?_, nG⟩
      rw [upd_upd, List.take_add_one, hr', List.map_append]
      rfl
    obtain ⟨G, sG, rfl, nG⟩ := hp
    rw [List.take_of_length_le (by rw [List.length_take]; omega)]
    have en : ((rs.take j).map fun r => V.str r.1) = ((rs.take j).map (·.1)).map V.str := by rw [List.map_map] <;> rfl
    rw [en]
    have k4 : Kp (· = r) H1 (upd G D (.lst (((rs.take j).map (·.1)).map V.str))) := Kp.of (sG.trans (same_new nG))
    have S4 := Sj.next k4 (by rw [upd_ne rD]; exact sG _ _ Sj.rd) iz (by decide)
    have nx : (rs[j]).1 ∉ (rs.take j).map (·.1) := fun hm => by
      rw [List.map_take] at hm
      have := ndr
      rw [← List.take_append_drop j (rs.map (·.1))] at this
      have h2 := (List.nodup_append.mp this).2.2 _ hm rs[j].1 (by rw [List.map_drop.symm, ej, List.map_cons]; exact List.mem_cons_self)
      exact h2 rfl
    refine ⟨r, dx, w, D, us, ws, _, (rs[j]).1, (rs[j]).2, _, toksRs (rs.drop (j + 1)) ++ post, rfl, S4, SqL.of upd_same, fun z => rD z.symm, nx, nk, okl, l6, edj2, fun v H5 AF => ?_⟩
    obtain ⟨k5, r5, d5⟩ := AF
    have k15 := k4.trans k5
    have o5 : H5 o = some (.lst vs) := k15.same _ _ (fun z => ro z.symm) bl.at_
    refine ⟨o, vs, v, rfl, rfl, o5, sizes1 (by omega), ?_⟩
    refine ⟨rs.length - (j + 1), by omega, ?_⟩
    rw [eW]
    have etk : rs.take (j + 1) = rs.take j ++ [rs[j]] := by rw [List.take_add_one, List.getElem?_eq_getElem hlt]; rfl
    refine ⟨j + 1, vs ++ [v], _, _, rfl, hlt, rfl, ⟨fun b u nb e => ?_, fun b hb e => ?_⟩, ?_, ?_⟩
    · rw [upd_ne (ne_of_none e ho)]
      exact (kj.trans k15).same b u nb e
    · rw [upd_ne (show b ≠ o from fun z => ro (hb.symm.trans z))]
      exact (kj.trans k15).mt b hb e
    · rw [upd_ne ro, etk, toksRs_app, toksRs_one, List.length_append, ← Nat.add_assoc]
      exact r5
    · rw [etk, List.map_append]
      exact (bl.keep k15 (fun z => ro z.symm) S.mu).push kj bl.at_ (dp_made k4 Kp.refl Sj.mu d5)
  · have ejl : j = rs.length := by omega
    subst ejl
    rw [List.drop_length]
    have et : decide (V.str (((toksRs [] ++ post).head?).getD "") = V.str kR) = false := decide_eq_false fun z => by
      have z2 := V.str.inj z
      cases post with
      | nil => exact absurd z2 (by decide +kernel)
      | cons y t => exact hp (congrArg some z2)
    refine ⟨rfl, _, rfl, ?_⟩
    rw [et]
    refine iteF (iteF ?_)
    rw [List.take_length] at rj bl
    exact ⟨_, rfl, q _ _ ⟨kj, rj, bl.done⟩⟩
end
end K53

/-! KP -/
/-! programs: copy_statements, Program -/
namespace K53
open PySem PySem.Spec PyProof.Rows L2
/-- lists and tuples stand as they were -/
structure Sq (K : PySem.W.Frag) (H H' : Hp) : Prop where
  l : ∀ a xs, SqL K H a xs → SqL K H' a xs
  t : ∀ a xs, SqT K H a xs → SqT K H' a xs
mutual
theorem Dp.upS {K : PySem.W.Frag} {H H' : Hp} (e : Sq K H H') : ∀ (d : PyData) (v : V), Dp K H v d → Dp K H' v d
  | .none, _, h => by cases h; exact .non
  | .bool b, _, h => by cases h; exact .bl b
  | .int i, _, h => by cases h; exact .int i
  | .str x, _, h => by cases h; exact .str x
  | .list ds, _, h => by
    cases h with
    | lst hs ha => exact .lst (e.l _ _ hs) (DpAll.upS e ds _ ha)
  | .tuple ds, _, h => by
    cases h with
    | tup hs ha => exact .tup (e.t _ _ hs) (DpAll.upS e ds _ ha)
  | .dict _, _, h => by cases h
theorem DpAll.upS {K : PySem.W.Frag} {H H' : Hp} (e : Sq K H H') : ∀ (ds : List PyData) (vs : List V), DpAll K H vs ds → DpAll K H' vs ds
  | [], _, h => by cases h; exact .nil
  | d :: ds, _, h => by
    cases h with
    | cons h1 h2 => exact .cons (Dp.upS e d _ h1) (DpAll.upS e ds _ h2)
end
theorem sq_ins {K : PySem.W.Frag} {H : Hp} {a C dx : Addr} {fs : List (Str × V)} {u : HO} (h : H a = some (.ins C dx fs)) : Sq K H (upd H a u) := by
  have key : ∀ b o, (∀ C dx fs, o ≠ .ins C dx fs) → H b = some o → upd H a u b = some o := fun b o n e => by
    rw [upd_ne (fun z : b = a => by rw [z, h] at e; exact n _ _ _ (Option.some.inj e).symm)]
    exact e
  refine ⟨fun b xs q => ?_, fun b xs q => ?_⟩
  · rcases q with (q | ⟨o, q⟩) | q
    · exact .inl (.inl (key _ _ (fun _ _ _ z => nomatch z) q))
    · exact .inl (.inr ⟨o, key _ _ (fun _ _ _ z => nomatch z) q⟩)
    · exact .inr q
  · rcases q with (q | ⟨o, q⟩) | q
    · exact .inl (.inl (key _ _ (fun _ _ _ z => nomatch z) q))
    · exact .inl (.inr ⟨o, key _ _ (fun _ _ _ z => nomatch z) q⟩)
    · exact .inr q
theorem sq_same {K : PySem.W.Frag} {H H' : Hp} (e : Same H H') : Sq K H H' := ⟨fun _ _ h => e.seq h, fun _ _ h => Same.sqt e h⟩
/-- a tuple is no list -/
theorem sqt_nw {D : Addr → Prop} {K : PySem.W.Frag} {H0 H : Hp} {a : Addr} {xs : List V} (k : Kp D H0 H) (h : SqT K H a xs) : SqT K (nw H0 H) a xs := by
  have key : ∀ o, mu (some o) = false → H a = some o → nw H0 H a = some o := fun o m e => by
    refine nw_some.mpr ⟨?_, e⟩
    cases q : mu (H0 a) with
    | false => rfl
    | true =>
      have := k.stay q
      rw [e, m] at this
      cases this
  rcases h with (h | ⟨o, h⟩) | h
  · exact .inl (.inl (key _ rfl h))
  · exact .inl (.inr ⟨o, key _ rfl h⟩)
  · exact .inr h
/-- a plain statement's tuple, made whenever -/
theorem pl_nw {D : Addr → Prop} {K : PySem.W.Frag} {H0 H : Hp} {v : V} {p : Pl} (k : Kp D H0 H) (h : Dp K H v p.data) : Dp K (nw H0 H) v p.data := by
  have flat : ∀ (ds : List PyData), (∀ d ∈ ds, (∃ x, d = .str x) ∨ (∃ b, d = .bool b)) → p.data = .tuple ds → Dp K (nw H0 H) v p.data := fun ds hf e => by
    rw [e] at h ⊢
    obtain ⟨a, xs, rfl, hs, ha⟩ := dp_tup h
    refine .tup (sqt_nw k hs) ?_
    have go : ∀ (ds : List PyData) (xs : List V), (∀ d ∈ ds, (∃ x, d = .str x) ∨ (∃ b, d = .bool b)) → DpAll K H xs ds → DpAll K (nw H0 H) xs ds := fun ds => by
      induction ds with
      | nil => intro xs _ h; rw [all_nil h]; exact .nil
      | cons d ds ih =>
        intro xs hf h
        obtain ⟨v, r, rfl, h1, h2⟩ := all_cons h
        refine .cons ?_ (ih r (fun d m => hf d (List.mem_cons_of_mem _ m)) h2)
        rcases hf d List.mem_cons_self with ⟨x, rfl⟩ | ⟨b, rfl⟩
        · rw [dp_str h1]; exact .str x
        · rw [dp_bool h1]; exact .bl b
    exact go ds xs hf ha
  cases p <;> exact flat _ (by simp [or_imp, forall_and]) rfl
section
variable {P : Program} {w : World} {K : PySem.W.Frag} {mg : Str → Option Value} {base : Heap} {C : Addr}
/-! ### copy_statements -/
theorem st_plain {H : Hp} {d : Nat} {v : V} {st : S} (sa : StAt K H d v st) : (∃ pl k p r, st = .pl pl ∧ v = .ref p ∧ SqT K H p (.str k :: r) ∧ k ≠ "if" ∧ k ≠ "repeat") ∨
    (∃ n a b p u w c, d = c + 1 ∧ v = .ref p ∧ SqT K H p [.str "if", .str n, u, w] ∧ Dp K H u (.list (dataL a)) ∧ Dp K H w (.list (dataL b)) ∧ st = .iff n a b ∧ a.length ≤ 2 ∧ b.length ≤ 2 ∧ OkL c a ∧ OkL c b) ∨
    (∃ k a p u c, d = c + 1 ∧ v = .ref p ∧ SqT K H p [.str "repeat", .int ((k : Nat) : Int), u] ∧ Dp K H u (.list (dataL a)) ∧ st = .rep k a ∧ a.length ≤ 2 ∧ OkL c a) := by
  have key : ∀ {l : List Str}, st.toks = l → (∀ x y t, l = x :: y :: kO :: t → False) → ∃ pl, st = .pl pl := fun e h2 => by
    cases st with
    | pl pl => exact ⟨pl, rfl⟩
    | iff x a b => rw [toks_iff] at e; exact (h2 _ _ _ e.symm).elim
    | rep x a => rw [toks_rep] at e; exact (h2 _ _ _ e.symm).elim
  cases sa with
  | two k n p pw e t lt ot nk =>
    obtain ⟨pl, rfl⟩ := key ot (fun x y t h => nomatch h)
    exact .inl ⟨pl, k, p, _, rfl, e, t, pw.n1, pw.n2⟩
  | sw k n b p hk e t lt ot nk =>
    obtain ⟨pl, rfl⟩ := key ot (fun x y t h => by
      have h3 := (List.cons.inj (List.cons.inj (List.cons.inj h).2).2).1
      cases b <;> exact absurd h3 (by decide +kernel))
    refine .inl ⟨pl, k, p, _, rfl, e, t, ?_, ?_⟩
    · rcases hk with rfl | rfl <;> decide +kernel
    · rcases hk with rfl | rfl <;> decide +kernel
  | rel p e t lt ot =>
    obtain ⟨pl, rfl⟩ := key ot (fun x y t h => nomatch h)
    exact .inl ⟨pl, _, p, _, rfl, e, t, by decide +kernel, by decide +kernel⟩
  | iff n a b p u w c hd e t du dw es nk la lb oa ob => exact .inr (.inl ⟨n, a, b, p, u, w, c, hd, e, t, du, dw, es, la, lb, oa, ob⟩)
  | rep k a p u c hd e t du es k1 k3 la oa => exact .inr (.inr ⟨k, a, p, u, c, hd, e, t, du, es, la, oa⟩)
def spCopy (K : PySem.W.Frag) (n : Nat) : Sp := fun vs H Q _ => ∃ (a : Addr) (d : Nat) (l : List S), vs = [.ref a] ∧ d < n ∧ Dp K H (.ref a) (.list (dataL l)) ∧ OkL d l ∧ l.length ≤ 10 ∧
  ∀ (o : Addr) H', Same H H' → Dp K (nw H H') (.ref o) (.list (dataL l)) → Q (.ref o) H'
theorem ok_copy {f : Addr} {fd : FuncData} (A : At K mg d_copy_statements "copy_statements" f fd) {n : Nat} (cr : FnOk P w K mg base CX0 n f fd ["statements"] (spCopy K n)) : FnOk P w K mg base CX0 (n + 1) f fd ["statements"] (spCopy K (n + 1)) := by
  refine A.F.ok sc_copy_statements (fun vs H Q E h => ?_) (fun cdv A' outer s H vs Q E hr h => ?_)
  · obtain ⟨a, d, l, rfl, _⟩ := h
    rfl
  obtain ⟨a, d, l, rfl, dn, hl, okl, l10, q⟩ := h
  have b3 : Binds K fd ["statements"] [] := A.F.bindsN fun _ _ _ _ _ _ us hl => match us, hl with | [_], _ => rfl
  have nd := sc_copy_statements.nd
  refine ⟨_, PSs.nox (pss_cons (ps_set (i := 1) nd rfl (.inl rfl) (pe_lst pa_nil))
    (pss_cons (ps_for PassesOwn.never rfl (pi_list (pv 0)) (pg_name (i := 2) nd rfl (.inl rfl))
      (pss_one (ps_if (pt_cmpR op_eq (pe_ix ix_tup (pv 2) pe_int (fun _ _ => rfl)) pe_str (nomark _))
        (pss_cons (ps_set (i := 3) nd rfl (.inl rfl) (pe_call cr hr (by rfl) A.m A.F.kp b3 .nil pass0 (pa_cons (pe_ix ix_tup (pv 2) pe_int (fun _ _ => rfl)) pa_nil)))
        (pss_one (ps_expr (pe_bm PySem.F.plainAttrs_list PySem.F.slot_list_append PySem.F.type_list_append mt_append (pv 1) (pa_cons (pe_tup (pa_cons pe_str (pa_cons (pe_ix ix_tup (pv 2) pe_int (fun _ _ => rfl)) (pa_cons (pv 3) (pa_cons (pe_call cr hr (by rfl) A.m A.F.kp b3 .nil pass0 (pa_cons (pe_ix ix_tup (pv 2) pe_int (fun _ _ => rfl)) pa_nil)) pa_nil))))) pa_nil)))))
        (pss_one (ps_if (pt_cmpR op_eq (pe_ix ix_tup (pv 2) pe_int (fun _ _ => rfl)) pe_str (nomark _))
          (pss_one (ps_expr (pe_bm PySem.F.plainAttrs_list PySem.F.slot_list_append PySem.F.type_list_append mt_append (pv 1) (pa_cons (pe_tup (pa_cons pe_str (pa_cons (pe_ix ix_tup (pv 2) pe_int (fun _ _ => rfl)) (pa_cons (pe_call cr hr (by rfl) A.m A.F.kp b3 .nil pass0 (pa_cons (pe_ix ix_tup (pv 2) pe_int (fun _ _ => rfl)) pa_nil)) pa_nil)))) pa_nil))))
          (pss_one (ps_expr (pe_bm PySem.F.plainAttrs_list PySem.F.slot_list_append PySem.F.type_list_append mt_append (pv 1) (pa_cons (pv 2) pa_nil)))))))))
    (pss_one (ps_ret (pv 1))))), ?_⟩
  obtain ⟨a0, xs, ea, hS, hA⟩ := dp_list hl
  cases ea
  have xl : xs.length = l.length := by rw [all_len hA, dataL_map, List.length_map]
  refine ⟨Nat.zero_le _, fun o ho => ?_⟩
  have hD : ∀ b : Addr, (fun _ => False) b → mu (H b) = true := fun _ z => z.elim
  obtain ⟨Pv, ePv⟩ : ∃ Pv : Nat → L2.St → Hp → Prop, Pv = fun i σ H1 => ∃ (vs : List V) (y2 y3 : Option V), σ = [some (.ref a), some (.ref o), y2, y3] ∧ (∀ b u, H b = some u → H1 b = some u) ∧ Bl K H H1 o vs (dataL (l.take i)) := ⟨_, rfl⟩
  refine ⟨_, rfl, a, rfl, ⟨_, (same_new ho).seq hS⟩, for_list (K := K) (a := a) (xs := xs) Pv (by rw [ePv]; refine ⟨[], _, _, rfl, same_new ho, ?_⟩; rw [List.take_zero, dataL_nil]; exact ⟨ho, upd_same, .nil⟩) (fun i σ H1 _ hp => by
    rw [ePv] at hp
    obtain ⟨_, _, _, _, s1, _⟩ := hp
    exact Same.seq s1 hS) (fun i x σ H1 hx hp => ?_) (fun σ H1 hp => ?_)⟩
  · rw [ePv] at hp
    obtain ⟨vs, y2, y3, rfl, s1, bl⟩ := hp
    have s1' : Same H H1 := s1
    obtain ⟨dat, hdat, hdx⟩ := all_get hA hx
    obtain ⟨st, hst, rfl, hmem⟩ := data_at hdat
    have os := okl st hmem
    have hdx1 := Dp.up s1' _ _ hdx
    have sa := stAt os hdx1
    have il : i < l.length := (List.getElem?_eq_some_iff.mp hst).1
    have vl := bl.len
    rw [dataL_map, List.length_map, List.length_take] at vl
    -- an item put behind
    have put : ∀ {H2 : Hp} {v : V} {y2 y3 : Option V}, Same H1 H2 → Dp K (nw H1 H2) v st.data →
        H2 o = some (.lst vs) ∧ vs.length < sizeLine ∧ Pv (i + 1) [some (.ref a), some (.ref o), y2, y3] (upd H2 o (.lst (vs ++ [v]))) := fun {H2 v y2 y3} k dv => by
      have k' : Kp Nob H1 H2 := .of k
      refine ⟨k _ _ bl.at_, sizes1 (by omega), ?_⟩
      rw [ePv]
      refine ⟨vs ++ [v], _, _, rfl, fun b u e => ?_, ?_⟩
      · rw [upd_ne (ne_of_none e ho)]
        exact k _ _ (s1 b u e)
      · rw [List.take_add_one, hst, dataL_app]
        show Bl K H _ o _ (_ ++ dataL [st])
        rw [dataL_cons, dataL_nil]
        exact (bl.keep k' (fun z => z) hD).push (.of s1' : Kp Nob H H1) bl.at_ dv
    have few : ∀ {n : Nat}, n ≤ 4 → n ≤ sizeLine := fun h => sizes (by omega)
    have lst : ∀ {H2 : Hp}, Same H1 H2 → tyV K "list" (.ref o) H2 := fun k => .inl ⟨rfl, _, SqL.of (k _ _ bl.at_)⟩
    rcases st_plain sa with ⟨pl, k, p, r, rfl, rfl, t, n1, n2⟩ | ⟨n, a', b', p, u, w', c, rfl, rfl, t, du, dw, rfl, la, lb, oa, ob⟩ | ⟨k, a', p, u, c, rfl, rfl, t, du, rfl, la, oa⟩
    · rw [data_pl] at hdx1
      refine ⟨_, rfl, p, _, 0, _, rfl, rfl, t, atN 0 rfl, rfl, _, rfl, itN n1 ⟨_, rfl, p, _, 0, _, rfl, rfl, t, atN 0 rfl, rfl, _, rfl, itN n2 ⟨_, rfl, lst (Same.refl _), _, rfl, ?_⟩⟩⟩
      obtain ⟨i1, i2, i3⟩ := put (y2 := some (.ref p)) (y3 := y3) (Same.refl _) (by rw [data_pl]; exact pl_nw (D := Nob) Kp.refl hdx1)
      exact ⟨o, vs, _, rfl, rfl, i1, i2, i3⟩
    · obtain ⟨u0, us, eu, huS, huA⟩ := dp_list du
      cases eu
      obtain ⟨w0, ws, ew, hwS, hwA⟩ := dp_list dw
      cases ew
      refine ⟨_, rfl, p, _, 0, _, rfl, rfl, t, atN 0 rfl, rfl, _, rfl, itS rfl ?_⟩
      refine ⟨_, rfl, p, _, 2, _, rfl, rfl, t, atN 2 rfl, u0, c, a', rfl, by omega, du, oa, by omega, fun v1 H2 s2 d2 => ?_⟩
      refine ⟨_, rfl, lst s2, _, rfl, p, _, 1, _, rfl, rfl, Same.sqt s2 t, atN 1 rfl, _, rfl, _, rfl, p, _, 3, _, rfl, rfl, Same.sqt s2 t, atN 3 rfl, w0, c, b', rfl, by omega, Dp.up s2 _ _ dw, ob, by omega, fun v2 H3 s3 d3 => ?_⟩
      refine ⟨few (by show 4 ≤ 4; decide), fun p1 hp1 => ?_⟩
      have s4 : Same H3 (upd H3 p1 (.tup [.str "if", .str n, .ref v1, .ref v2])) := same_new hp1
      have n1 : H1 p1 = none := (Same.trans s2 s3).free hp1
      obtain ⟨i1, i2, i3⟩ := put (y2 := some (.ref p)) (y3 := some (.ref v1)) (Same.trans (Same.trans s2 s3) s4) (by
        rw [data_iff]
        exact dp_tuple n1 (.cons (.str _) (.cons (.str _) (.cons (dp_made (D := Nob) Kp.refl (.of (Same.trans s3 s4)) (fun _ z => z.elim) d2) (.cons (dp_made (D := Nob) (.of s2) (.of s4) (fun _ z => z.elim) d3) .nil)))))
      exact ⟨o, vs, _, rfl, rfl, i1, i2, i3⟩
    · obtain ⟨u0, us, eu, huS, huA⟩ := dp_list du
      cases eu
      refine ⟨_, rfl, p, _, 0, _, rfl, rfl, t, atN 0 rfl, rfl, _, rfl, itN (by decide +kernel) ⟨_, rfl, p, _, 0, _, rfl, rfl, t, atN 0 rfl, rfl, _, rfl, itS rfl ?_⟩⟩
      refine ⟨_, rfl, lst (Same.refl _), _, rfl, p, _, 1, _, rfl, rfl, t, atN 1 rfl, _, rfl, p, _, 2, _, rfl, rfl, t, atN 2 rfl, u0, c, a', rfl, by omega, du, oa, by omega, fun v1 H2 s2 d2 => ?_⟩
      refine ⟨few (by show 3 ≤ 4; decide), fun p1 hp1 => ?_⟩
      have s4 : Same H2 (upd H2 p1 (.tup [.str "repeat", .int ((k : Nat) : Int), .ref v1])) := same_new hp1
      have n1 : H1 p1 = none := Same.free s2 hp1
      obtain ⟨i1, i2, i3⟩ := put (y2 := some (.ref p)) (y3 := y3) (Same.trans s2 s4) (by
        rw [data_rep]
        exact dp_tuple n1 (.cons (.str _) (.cons (.int _) (.cons (dp_made (D := Nob) Kp.refl (.of s4) (fun _ z => z.elim) d2) .nil))))
      exact ⟨o, vs, _, rfl, rfl, i1, i2, i3⟩
  · rw [ePv] at hp
    obtain ⟨vs, y2, y3, rfl, s1, bl⟩ := hp
    have tl : l.take xs.length = l := List.take_of_length_le (by omega)
    rw [tl] at bl
    exact ⟨_, rfl, q o H1 s1 bl.done⟩
end
end K53

/-! KP2 -/
/-! Program -/
namespace K53
open PySem PySem.Spec PyProof.Rows L2
structure PgC (K : PySem.W.Frag) (mg : Str → Option Value) (C : Addr) : Prop where
  cls : Cls K C
  nr : NoAttr K C "routines"
  nb : NoAttr K C "body"
  gl : mg "Program" = some (.ref C)
  ha : PySem.W.findIn K (.ref C) "__class__" = some (some (.builtin "object.__class__"))
  hn : PySem.W.specialIn K (.builtin "object.__class__") "__get__" = some (some (.builtin "getset_descriptor.__get__"))
  htk : PySem.W.takesIn K (.builtin "object.__class__") = some true
  hm : PySem.W.mroIn K C (.type "object") = some true
  own : PySem.W.kitOne K (.ref C) (.ref C) = some true
  str : PySem.W.kitOne K (.type "str") (.ref C) = some false
  nf : PySem.W.notFirst K C (.type "str") = true
def pgF (ra ba : Addr) : List (Str × V) := [("routines", .ref ra), ("body", .ref ba)]
/-- p is a program of these parts -/
structure PgS (K : PySem.W.Frag) (H : Hp) (C p ra ba : Addr) (rs : List (Str × List S)) (l : List S) : Prop where
  pg : ∃ dx, H p = some (.ins C dx (pgF ra ba))
  dr : Dp K H (.ref ra) (.list (rs.map dataR))
  db : Dp K H (.ref ba) (.list (dataL l))
/-- what programs here have -/
structure Pt (rs : List (Str × List S)) (l : List S) : Prop where
  r4 : rs.length ≤ 4
  ok : ∀ r ∈ rs, r.2.length ≤ 6 ∧ OkL 1 r.2
  b7 : l.length ≤ 7
  okb : OkL 2 l
section
variable {P : Program} {w : World} {K : PySem.W.Frag} {mg : Str → Option Value} {base : Heap} {C : Addr}
theorem PgS.up {H H' : Hp} {p ra ba : Addr} {rs : List (Str × List S)} {l : List S} (h : PgS K H C p ra ba rs l) (e : Same H H') : PgS K H' C p ra ba rs l :=
  let ⟨dx, q⟩ := h.pg; ⟨⟨dx, e _ _ q⟩, Dp.up e _ _ h.dr, Dp.up e _ _ h.db⟩
theorem cal_copy {f : Addr} {fd : FuncData} (A : At K mg d_copy_statements "copy_statements" f fd) : ∀ n, FnOk P w K mg base CX0 n f fd ["statements"] (spCopy K n)
  | 0 => vac fun vs H Q E h => by
    obtain ⟨a, d, l, _, dn, _⟩ := h
    exact absurd dn (Nat.not_lt_zero _)
  | n + 1 => ok_copy A (cal_copy A n)
def spPInit (K : PySem.W.Frag) (C : Addr) : Sp := fun vs H Q _ => ∃ (p ra ba dx : Addr) (rs : List (Str × List S)) (l : List S), vs = [.ref p, .ref ra, .ref ba] ∧ H p = some (.ins C dx []) ∧ Dp K H (.ref ra) (.list (rs.map dataR)) ∧ Dp K H (.ref ba) (.list (dataL l)) ∧ Pt rs l ∧
  ∀ (ra' ba' : Addr) (H' : Hp), (∀ b u, H b = some u → b ≠ p → H' b = some u) → PgS K H' C p ra' ba' rs l → Q .non H'
theorem ok_P_init (R : PgC K mg C) {f : Addr} {fd : FuncData} (F : FunD K d_P_init.name d_P_init.qual d_P_init.params d_P_init.body d_P_init.scope [] [] f fd) (c1 : Cal P w K mg base "copy_statements" ["statements"] 3 (spCopy K 3)) :
    FnOk P w K mg base CX0 4 f fd ["self", "routines", "body"] (spPInit K C) := by
  refine F.ok sc_P_init (fun vs H Q E h => ?_) (fun cdv A' outer s H vs Q E hr h => ?_)
  · obtain ⟨p, ra, ba, dx, rs, l, rfl, _⟩ := h
    rfl
  obtain ⟨p, ra, ba, dx, rs, l, rfl, hp, hr_, hb, pt, q⟩ := h
  obtain ⟨f1, fd1, G1, m1, k1, b1⟩ := c1
  have nd := sc_P_init.nd
  refine ⟨_, PSs.nox (pss_cons (ps_fld (pv 0) (pe_lc (own := [("name", 3), ("statements", 4)]) (g := gTup K 2 (gCons (gName 3) (gCons (gName 4) gNil))) (tt := tYes) (by rfl) nd (pi_list (pv 1)) (blkOk_by (N := ["self", "routines", "body", "name", "statements"]) (sc := defScope s_P_init) (by decide +kernel))
        (fun _ _ _ _ _ => pg_tup (by rfl) (pgs_cons (pg_name (i := 3) nd rfl (.inl rfl)) (pgs_cons (pg_name (i := 4) nd rfl (.inl rfl)) pgs_nil))) (fun _ _ _ _ _ => pts_nil)
        (fun _ _ _ _ _ => pe_tup (pa_cons (pv 3) (pa_cons (pe_call G1 hr (by rfl) m1 k1 b1 .nil pass0 (pa_cons (pv 4) pa_nil)) pa_nil)))) (by rfl))
    (pss_one (ps_fld (pv 0) (pe_call G1 hr (by rfl) m1 k1 b1 .nil pass0 (pa_cons (pv 2) pa_nil)) (by rfl)))), ?_⟩
  obtain ⟨ra0, xs, er, hrS, hrA⟩ := dp_list hr_
  cases er
  have xl : xs.length = rs.length := by rw [all_len hrA, List.length_map]
  have r4 := pt.r4
  have hD : ∀ b : Addr, Nob b → mu (H b) = true := fun _ z => z.elim
  refine ⟨_, rfl, ra, rfl, ⟨_, hrS⟩, fun D hDn => ?_⟩
  have pD : p ≠ D := ne_of_none hp hDn
  refine lc_list (K := K) (a := ra) (xs := xs) (fun n Hn => ∃ vs, (∀ b u, H b = some u → Hn b = some u) ∧ Bl K H Hn D vs ((rs.take n).map dataR)) ⟨[], same_new hDn, hDn, upd_same, .nil⟩ (fun n Hn _ hq => ?_) (fun n x Hn hx hq => ?_) (fun Hn hq => ?_)
  · obtain ⟨vs, s1, bl⟩ := hq
    exact Same.seq s1 hrS
  · obtain ⟨vs, s1, bl⟩ := hq
    have s1' : Same H Hn := s1
    obtain ⟨dat, hdat, hdx⟩ := all_get hrA hx
    obtain ⟨rr, hr', rfl, hmem⟩ := rt_get hdat
    obtain ⟨p0, u, us', rfl, hT, du, _⟩ := rtAt hdx
    obtain ⟨o6, ok⟩ := pt.ok rr hmem
    have il : n < rs.length := (List.getElem?_eq_some_iff.mp hr').1
    have vl := bl.len
    rw [List.length_map, List.length_take] at vl
    refine ⟨p0, _, rfl, Same.sqt s1' hT, rfl, _, _, rfl, _, _, rfl, rfl, ?_⟩
    refine ⟨rfl, ?_⟩
    refine ⟨_, rfl, _, rfl, u, 1, rr.2, rfl, by decide, Dp.up s1' _ _ du, ok, by omega, fun o2 H2 s2 d2 => ⟨sizes (by show 2 ≤ 100000; decide), fun p1 hp1 => ?_⟩⟩
    have s3 : Same H2 (upd H2 p1 (.tup [.str rr.1, .ref o2])) := same_new hp1
    have s4 := Same.trans s2 s3
    have n1 : Hn p1 = none := Same.free s2 hp1
    have dv : Dp K (nw Hn (upd H2 p1 (.tup [.str rr.1, .ref o2]))) (.ref p1) (dataR rr) := dp_tuple n1 (.cons (.str _) (.cons (dp_made (D := Nob) Kp.refl (.of s3) (fun _ z => z.elim) d2) .nil))
    refine ⟨vs, s4 _ _ bl.at_, sizes1 (by omega), vs ++ [.ref p1], fun b u e => ?_, ?_⟩
    · rw [upd_ne (ne_of_none e hDn)]
      exact s4 _ _ (s1 b u e)
    · rw [List.take_add_one, hr', List.map_append]
      exact (bl.keep (.of s4 : Kp Nob Hn _) (fun z => z) hD).push (.of s1' : Kp Nob H Hn) bl.at_ dv
  obtain ⟨vs, s1, bl⟩ := hq
  have s1' : Same H Hn := s1
  rw [List.take_of_length_le (by omega)] at bl
  have d1 : Dp K Hn (.ref D) (.list (rs.map dataR)) := Dp.up (nw_le _ _) _ _ bl.done
  refine ⟨_, rfl, p, C, dx, [], rfl, s1 _ _ hp, R.cls, R.nr, by decide, ?_⟩
  -- the body
  have q1 := sq_ins (K := K) (u := .ins C dx (putF "routines" (.ref D) [])) (s1 _ _ hp)
  refine ⟨_, rfl, ba, 2, l, rfl, by decide, Dp.upS q1 _ _ (Dp.up s1' _ _ hb), pt.okb, by have := pt.b7; omega, fun o2 H2 s2 d2 => ?_⟩
  have hp2 : H2 p = some (.ins C dx (putF "routines" (.ref D) [])) := s2 _ _ upd_same
  refine ⟨_, rfl, p, C, dx, _, rfl, hp2, R.cls, R.nb, by show 1 < 1000; decide, ?_⟩
  have q2 := sq_ins (K := K) (u := .ins C dx (putF "body" (.ref o2) (putF "routines" (.ref D) []))) hp2
  refine q D o2 _ (fun b u e nb => ?_) ⟨⟨dx, upd_same⟩, Dp.upS q2 _ _ (Dp.up s2 _ _ (Dp.upS q1 _ _ d1)), Dp.upS q2 _ _ (Dp.up (nw_le _ _) _ _ d2)⟩
  rw [upd_ne nb]
  exact s2 _ _ (by rw [upd_ne nb]; exact s1 b u e)
/-! ### routine -/
def spRoutine (K : PySem.W.Frag) (C : Addr) : Sp := fun vs H Q _ => ∃ (p ra ba : Addr) (rs : List (Str × List S)) (b : List S) (x : Str), vs = [.ref p, .str x] ∧ PgS K H C p ra ba rs b ∧ Pt rs b ∧ (rs.map (·.1)).Nodup ∧
  ((∃ l, (x, l) ∈ rs ∧ ∀ (o : Addr) H', Same H H' → Dp K H' (.ref o) (.list (dataL l)) → Q (.ref o) H') ∨ (x ∉ rs.map (·.1) ∧ Q .non H))
theorem ok_P_routine (R : PgC K mg C) {f : Addr} {fd : FuncData} (A : AtM K C d_P_routine "routine" f fd) (c1 : Cal P w K mg base "copy_statements" ["statements"] 3 (spCopy K 3)) :
    CalM P w K mg base C "routine" ["self", "name"] 4 (spRoutine K C) := by
  refine ⟨f, fd, A.F.ok sc_P_routine (fun vs H Q E h => ?_) (fun cdv A' outer s H vs Q E hr h => ?_), A.m, A.F.bindsN fun _ _ _ _ _ _ us hl => match us, hl with | [_, _], _ => rfl⟩
  · obtain ⟨p, ra, ba, rs, b, x, rfl, _⟩ := h
    rfl
  obtain ⟨p, ra, ba, rs, b, x, rfl, S, pt, nd1, q⟩ := h
  obtain ⟨f1, fd1, G1, m1, k1, b1⟩ := c1
  have nd := sc_P_routine.nd
  refine ⟨_, PSs.nox (pss_cons (ps_for PassesOwn.never rfl (pi_list (pe_fld (pv 0) (by rfl))) (pg_tup (by rfl) (pgs_cons (pg_name (i := 2) nd rfl (.inl rfl)) (pgs_cons (pg_name (i := 3) nd rfl (.inl rfl)) pgs_nil)))
      (pss_one (ps_if (pt_cmpR op_eq (pv 2) (pv 1) (nomark _)) (pss_one (ps_ret (pe_call G1 hr (by rfl) m1 k1 b1 .nil pass0 (pa_cons (pv 3) pa_nil)))) pss_nil)))
    (pss_one (ps_ret pe_non))), ?_⟩
  obtain ⟨dx, hp⟩ := S.pg
  obtain ⟨ra0, xs, er, hrS, hrA⟩ := dp_list S.dr
  cases er
  have xl : xs.length = rs.length := by rw [all_len hrA, List.length_map]
  refine ⟨_, rfl, p, C, dx, _, _, rfl, hp, R.cls, R.nr, rfl, ra, rfl, ⟨_, hrS⟩, for_list (K := K) (a := ra) (xs := xs) (fun n σ H1 => H1 = H ∧ (∃ y2 y3, σ = [some (.ref p), some (.str x), y2, y3]) ∧ ∀ r ∈ rs.take n, r.1 ≠ x) ⟨rfl, ⟨_, _, rfl⟩, fun _ m => nomatch m⟩ (fun n σ H1 _ hq => by rw [hq.1]; exact hrS) (fun n v σ H1 hx hq => ?_) (fun σ H1 hq => ?_)⟩
  · obtain ⟨rfl, ⟨y2, y3, rfl⟩, hn⟩ := hq
    obtain ⟨dat, hdat, hdx⟩ := all_get hrA hx
    obtain ⟨rr, hr', rfl, hmem⟩ := rt_get hdat
    obtain ⟨p0, u, us', rfl, hT, du, _⟩ := rtAt hdx
    obtain ⟨o6, ok⟩ := pt.ok rr hmem
    refine ⟨p0, _, rfl, hT, rfl, _, _, rfl, _, _, rfl, rfl, ?_⟩
    refine ⟨_, rfl, _, rfl, rfl, _, rfl, ?_⟩
    by_cases e : rr.1 = x
    · refine itS e ⟨_, rfl, u, 1, rr.2, rfl, by decide, du, ok, by omega, fun o2 H2 s2 d2 => ?_⟩
      rcases q with ⟨l, hl, q⟩ | ⟨nx, q⟩
      · have el : rr.2 = l := by
          obtain ⟨i1, h1, e1⟩ := List.mem_iff_getElem.mp hmem
          obtain ⟨i2, h2, e2⟩ := List.mem_iff_getElem.mp hl
          have ei : i1 = i2 := by
            have hp := List.pairwise_iff_getElem.mp nd1
            have l1 : i1 < (rs.map (·.1)).length := by rw [List.length_map]; exact h1
            have l2 : i2 < (rs.map (·.1)).length := by rw [List.length_map]; exact h2
            have g1 : (rs.map (·.1))[i1] = x := by rw [List.getElem_map, e1]; exact e
            have g2 : (rs.map (·.1))[i2] = x := by rw [List.getElem_map, e2]
            rcases Nat.lt_trichotomy i1 i2 with h | h | h
            · exact absurd (g1.trans g2.symm) (hp i1 i2 l1 l2 h)
            · exact h
            · exact absurd (g2.trans g1.symm) (hp i2 i1 l2 l1 h)
          subst ei
          rw [e1] at e2
          rw [e2]
        rw [el] at d2
        exact q o2 H2 s2 (Dp.up (nw_le _ _) _ _ d2)
      · exact absurd (List.mem_map.mpr ⟨rr, hmem, e⟩) nx
    · refine itN e ⟨rfl, ⟨_, _, rfl⟩, fun r m => ?_⟩
      rw [List.take_add_one, hr'] at m
      rcases List.mem_append.mp m with m | m
      · exact hn r m
      · rw [List.mem_singleton.mp (show r ∈ [rr] from m)]
        exact e
  · obtain ⟨rfl, ⟨y2, y3, rfl⟩, hn⟩ := hq
    rw [List.take_of_length_le (by omega)] at hn
    rcases q with ⟨l, hl, q⟩ | ⟨nx, q⟩
    · exact absurd rfl (hn _ hl)
    · exact q
end
end K53

/-! KL -/
/-! the shape of the data -/
namespace K53
open PySem PySem.Spec PyProof.Rows L2
/-- of depth m and weight n at most -/
structure Nice (m n : Nat) (d : PyData) : Prop where
  lay : d.canLay0 = true
  dep : d.depth ≤ m
  wei : d.weight ≤ n
  sho : d.showable = true
  ish : d.intsShort 13 = true
theorem Nice.up {m n m' n' : Nat} {d : PyData} (h : Nice m n d) (hm : m ≤ m') (hn : n ≤ n') : Nice m' n' d := ⟨h.lay, Nat.le_trans h.dep hm, Nat.le_trans h.wei hn, h.sho, h.ish⟩
theorem nice_all {m n : Nat} : ∀ {ds : List PyData}, (∀ d ∈ ds, Nice m n d) → PyData.canLayAll0 ds = true ∧ PyData.depthAll ds ≤ m ∧ PyData.weightAll ds ≤ ds.length * (n + 1) ∧ PyData.showableAll ds = true ∧ PyData.intsShortAll 13 ds = true
  | [], _ => ⟨rfl, Nat.zero_le _, Nat.zero_le _, rfl, rfl⟩
  | d :: ds, h => by
    obtain ⟨h1, h2, h3, h4, h5⟩ := nice_all fun e m => h e (List.mem_cons_of_mem _ m)
    have k := h d List.mem_cons_self
    refine ⟨by rw [PyData.canLayAll0, k.lay, h1]; rfl, by rw [PyData.depthAll]; exact Nat.max_le.mpr ⟨k.dep, h2⟩, ?_, by rw [PyData.showableAll, k.sho, h4]; rfl, by rw [PyData.intsShortAll, k.ish, h5]; rfl⟩
    rw [PyData.weightAll, List.length_cons, Nat.succ_mul]
    have := k.wei
    omega
theorem nice_list {m n : Nat} {ds : List PyData} (h : ∀ d ∈ ds, Nice m n d) : Nice (m + 1) (ds.length * (n + 1)) (.list ds) := by
  obtain ⟨h1, h2, h3, h4, h5⟩ := nice_all h
  exact ⟨by rw [PyData.canLay0]; exact h1, by rw [PyData.depth]; omega, by rw [PyData.weight]; exact h3, by rw [PyData.showable]; exact h4, by rw [PyData.intsShort]; exact h5⟩
theorem nice_tup {m n : Nat} {ds : List PyData} (h : ∀ d ∈ ds, Nice m n d) : Nice (m + 1) (ds.length * (n + 1)) (.tuple ds) := by
  obtain ⟨h1, h2, h3, h4, h5⟩ := nice_all h
  exact ⟨by rw [PyData.canLay0]; exact h1, by rw [PyData.depth]; omega, by rw [PyData.weight]; exact h3, by rw [PyData.showable]; exact h4, by rw [PyData.intsShort]; exact h5⟩
theorem nice_str {n : Nat} {x : Str} (h : (cs x).all (· < 128) = true) (l : x.length ≤ n) : Nice 0 n (.str x) := by
  refine ⟨?_, by rw [PyData.depth]; omega, by rw [PyData.weight]; exact l, rfl, rfl⟩
  rw [PyData.canLay0]
  unfold PyData.strOk
  rw [← Array.all_toList]
  refine List.all_eq_true.mpr fun c m => ?_
  have := List.all_eq_true.mp h c m
  simp only [decide_eq_true_eq] at this ⊢
  omega
theorem name_low {x : Str} (h : NameOk x) : (cs x).all (· < 128) = true := by
  refine List.all_eq_true.mpr fun c m => ?_
  rw [decide_eq_true_eq]
  rcases h.signs c m with q | q | q
  · obtain ⟨_, q⟩ := q
    omega
  · omega
  · omega
theorem nice_name {x : Str} (h : NameOk x) : Nice 0 20 (.str x) := nice_str (name_low h) h.len.2
theorem nice_bool (b : Bool) : Nice 0 20 (.bool b) := ⟨rfl, Nat.zero_le _, Nat.zero_le _, rfl, rfl⟩
theorem nice_num {k : Nat} (h1 : 1 ≤ k) (h3 : k ≤ 3) : Nice 0 20 (.int (k : Int)) := by
  rcases num_cases h1 h3 with rfl | rfl | rfl <;> exact ⟨by decide +kernel, by decide +kernel, by decide +kernel, by decide +kernel, by decide +kernel⟩
def wgt : Nat → Nat
  | 0 => 63
  | d + 1 => (2 * (wgt d + 1) + 21) * 4
theorem nice_pl {p : Pl} (h : p.Ok) : Nice 1 63 p.data := by
  have w2 : ∀ (k n : Str), (cs k).all (· < 128) = true → k.length ≤ 20 → NameOk n → Nice 1 63 (.tuple [.str k, .str n]) := fun k n hk hl hn => (nice_tup (m := 0) (n := 20) fun d m => by
    simp only [List.mem_cons, List.not_mem_nil, or_false] at m
    rcases m with rfl | rfl
    · exact nice_str hk hl
    · exact nice_name hn).up (Nat.le_refl _) (by simp)
  have w3 : ∀ (k n : Str) (b : Bool), (cs k).all (· < 128) = true → k.length ≤ 20 → NameOk n → Nice 1 63 (.tuple [.str k, .str n, .bool b]) := fun k n b hk hl hn => (nice_tup (m := 0) (n := 20) fun d m => by
    simp only [List.mem_cons, List.not_mem_nil, or_false] at m
    rcases m with rfl | rfl | rfl
    · exact nice_str hk hl
    · exact nice_name hn
    · exact nice_bool b).up (Nat.le_refl _) (by simp)
  cases p with
  | move n => exact w2 _ n (by decide +kernel) (by decide +kernel) h
  | take n => exact w2 _ n (by decide +kernel) (by decide +kernel) h
  | call n => exact w2 _ n (by decide +kernel) (by decide +kernel) h
  | set n b => exact w3 _ n b (by decide +kernel) (by decide +kernel) h
  | wait n b => exact w3 _ n b (by decide +kernel) (by decide +kernel) h
  | release =>
    exact (nice_tup (m := 0) (n := 20) fun d m => by
      rw [List.mem_singleton.mp m]
      exact nice_str (by decide +kernel) (by decide +kernel)).up (Nat.le_refl _) (by simp)
theorem nice_dl {m n k : Nat} {l : List S} (h : ∀ s ∈ l, Nice m n s.data) (hk : l.length ≤ k) : Nice (m + 1) (k * (n + 1)) (.list (dataL l)) := by
  rw [dataL_map]
  refine (nice_list fun d hd => ?_).up (Nat.le_refl _) (Nat.mul_le_mul_right _ (by rw [List.length_map]; exact hk))
  obtain ⟨s, hs, rfl⟩ := List.mem_map.mp hd
  exact h s hs
theorem wgt_ge (d : Nat) : 63 ≤ wgt d := by
  cases d with
  | zero => exact Nat.le_refl _
  | succ d => show 63 ≤ (2 * (wgt d + 1) + 21) * 4; omega
theorem nice_S : ∀ (d : Nat) (s : S), Ok d s → Nice (2 * d + 1) (wgt d) s.data
  | d, .pl p, h => by
    rw [data_pl]
    exact (nice_pl (ok_pl h)).up (by omega) (wgt_ge d)
  | 0, .iff _ _ _, h => h.elim
  | 0, .rep _ _, h => h.elim
  | d + 1, .iff x a b, ⟨h1, la, lb, h4, h5⟩ => by
    rw [data_iff]
    have e : wgt (d + 1) = 4 * (2 * (wgt d + 1) + 20 + 1) := by show (2 * (wgt d + 1) + 21) * 4 = _; omega
    rw [e]
    refine (nice_tup (m := 2 * d + 2) (n := 2 * (wgt d + 1) + 20) fun t m => ?_).up (by omega) (Nat.le_refl _)
    simp only [List.mem_cons, List.not_mem_nil, or_false] at m
    rcases m with rfl | rfl | rfl | rfl
    · exact (nice_str (n := 20) (by decide +kernel) (by decide +kernel)).up (by omega) (by omega)
    · exact (nice_name h1).up (by omega) (by omega)
    · exact (nice_dl (fun s m => nice_S d s (h4 s m)) la).up (by omega) (by omega)
    · exact (nice_dl (fun s m => nice_S d s (h5 s m)) lb).up (by omega) (by omega)
  | d + 1, .rep k a, ⟨h1, h2, la, h4⟩ => by
    rw [data_rep]
    have e : wgt (d + 1) = 4 * (2 * (wgt d + 1) + 20 + 1) := by show (2 * (wgt d + 1) + 21) * 4 = _; omega
    rw [e]
    refine (nice_tup (m := 2 * d + 2) (n := 2 * (wgt d + 1) + 20) fun t m => ?_).up (by omega) (Nat.mul_le_mul_right _ (by simp))
    simp only [List.mem_cons, List.not_mem_nil, or_false] at m
    rcases m with rfl | rfl | rfl
    · exact (nice_str (n := 20) (by decide +kernel) (by decide +kernel)).up (by omega) (by omega)
    · exact (nice_num h1 h2).up (by omega) (by omega)
    · exact (nice_dl (fun s m => nice_S d s (h4 s m)) la).up (by omega) (by omega)
theorem nice_L {d k : Nat} {l : List S} (h : OkL d l) (hk : l.length ≤ k) : Nice (2 * d + 2) (k * (wgt d + 1)) (.list (dataL l)) := nice_dl (fun s m => nice_S d s (h s m)) hk
theorem nice_R {r : Str × List S} (hn : (cs r.1).all (· < 128) = true) (l : r.1.length ≤ 20) (l6 : r.2.length ≤ 6) (ok : OkL 1 r.2) : Nice 5 8000 (dataR r) := by
  refine (nice_tup (m := 4) (n := 3600) fun t m => ?_).up (Nat.le_refl _) (by simp)
  simp only [List.mem_cons, List.not_mem_nil, or_false] at m
  rcases m with rfl | rfl
  · exact (nice_str hn l).up (by omega) (by omega)
  · exact (nice_L ok l6).up (by decide) (by decide)
theorem Nice.shaped {m n : Nat} {d : PyData} (h : Nice m n d) (hm : m ≤ 64) : SeqAt.shaped d = true := by
  unfold SeqAt.shaped
  rw [h.lay, decide_eq_true (Nat.le_trans h.dep hm)]
  rfl
theorem Nice.room {m n : Nat} {d : PyData} (h : Nice m n d) (hm : m ≤ 64) (hn : n ≤ 2 ^ 20) : d.shown.length ≤ sizeLine := by
  have hl : PyData.layable0 d = true := by
    unfold PyData.layable0
    rw [h.lay, decide_eq_true (Nat.le_trans h.dep hm), decide_eq_true (Nat.le_trans h.wei hn)]
    rfl
  exact Nat.le_trans (shown_le13 hl h.ish) (by decide)
end K53

/-! KP3 -/
/-! Program.__eq__ -/
namespace K53
open PySem PySem.Spec PyProof.Rows L2
section
variable {P : Program} {w : World} {K : PySem.W.Frag} {mg : Str → Option Value} {base : Heap} {C : Addr}
abbrev rsD (rs : List (Str × List S)) : PyData := .list (rs.map dataR)
abbrev blD (l : List S) : PyData := .list (dataL l)
def spPEq (K : PySem.W.Frag) (C : Addr) : Sp := fun vs H Q _ => ∃ (p ra ba : Addr) (rs : List (Str × List S)) (l : List S) (y : V), vs = [.ref p, y] ∧ PgS K H C p ra ba rs l ∧ SeqAt.shaped (rsD rs) = true ∧ SeqAt.shaped (blD l) = true ∧
  ((∃ z, y = .str z ∧ Q (.bl false) H) ∨ ∃ (p2 ra2 ba2 : Addr) (rs2 : List (Str × List S)) (l2 : List S), y = .ref p2 ∧ PgS K H C p2 ra2 ba2 rs2 l2 ∧ SeqAt.shaped (rsD rs2) = true ∧ SeqAt.shaped (blD l2) = true ∧
    Q (.bl (PyData.eqv (rsD rs) (rsD rs2) && PyData.eqv (blD l) (blD l2))) H)
theorem ok_P_eq (B : Bi mg) (R : PgC K mg C) {f : Addr} {fd : FuncData} (F : FunD K d_P_eq.name d_P_eq.qual d_P_eq.params d_P_eq.body d_P_eq.scope [] [] f fd) : FnOk P w K mg base CX0 1 f fd ["self", "other"] (spPEq K C) := by
  refine F.ok sc_P_eq (fun vs H Q E h => ?_) (fun cdv A' outer s H vs Q E hr h => ?_)
  · obtain ⟨p, ra, ba, rs, l, y, rfl, _⟩ := h
    rfl
  obtain ⟨p, ra, ba, rs, l, y, rfl, S, s1, s2, q⟩ := h
  have hu : (A'.deeper (envOfC d_P_eq.qual d_P_eq.scope s.heap.objs.size f cdv)).units + 64 < cLine := by
    have := hr.un
    omega
  refine ⟨_, PSs.nox (pss_one (ps_ret (pe_and (pe_callB call_isi (by rfl) B.isi bt_isi (pa_cons (pv 1) (pa_cons (pe_glob (v := .ref C) (by rfl) R.gl rfl) pa_nil)))
    (pe_and (pe_cmpR (op_eqD hu) (pe_fld (pv 0) (by rfl)) (pe_fld (pv 1) (by rfl)) (nomark _)) (pe_one (pe_cmpR (op_eqD hu) (pe_fld (pv 0) (by rfl)) (pe_fld (pv 1) (by rfl)) (nomark _))))))), ?_⟩
  obtain ⟨dx, hp⟩ := S.pg
  rcases q with ⟨z, rfl, q⟩ | ⟨p2, ra2, ba2, rs2, l2, rfl, S2, s3, s4, q⟩
  · exact ⟨_, rfl, .str z, .ref C, .type "str", .ref C, false, rfl, .own C, .base (.str z), R.str, _, rfl, iteF q⟩
  · obtain ⟨dx2, hp2⟩ := S2.pg
    refine ⟨_, rfl, .ref p2, .ref C, .ref C, .ref C, true, rfl, .own C, .base (.ins hp2 R.cls R.ha R.hn R.htk R.hm), R.own, _, rfl, iteT ?_⟩
    refine ⟨_, rfl, p, C, dx, _, _, rfl, hp, R.cls, R.nr, rfl, _, rfl, p2, C, dx2, _, _, rfl, hp2, R.cls, R.nr, rfl, rsD rs, rsD rs2, S.dr, S2.dr, s1, s3, _, rfl, ?_⟩
    cases e : PyData.eqv (rsD rs) (rsD rs2) with
    | false =>
      rw [e] at q
      exact iteF q
    | true =>
      rw [e] at q
      exact iteT ⟨_, rfl, p, C, dx, _, _, rfl, hp, R.cls, R.nb, rfl, _, rfl, p2, C, dx2, _, _, rfl, hp2, R.cls, R.nb, rfl, blD l, blD l2, S.db, S2.db, s2, s4, q⟩
end
end K53

/-! KQ -/
/-! read_program -/
namespace K53
open PySem PySem.Spec PyProof.Rows L2
theorem head_ne (l : List S) : (toksL l).head? ≠ some kE ∧ (toksL l).head? ≠ some kR := by
  cases l with
  | nil =>
    rw [toksL_nil]
    exact ⟨(fun h => nomatch h), (fun h => nomatch h)⟩
  | cons s r =>
    obtain ⟨x, rest, e, _, h, h2⟩ := tok_head s
    rw [toksL_cons, e]
    exact ⟨fun z => h (Option.some.inj z), fun z => h2 (Option.some.inj z)⟩
theorem toks_pos (s : S) : 1 ≤ s.toks.length := by
  obtain ⟨x, rest, e, _⟩ := tok_head s
  rw [e, List.length_cons]
  omega
section
variable {P : Program} {w : World} {K : PySem.W.Frag} {mg : Str → Option Value} {base : Heap} {C CP : Addr}
theorem Good.pt {rs : List (Str × List S)} {l : List S} (g : Good rs l) : Pt rs l := ⟨by have := g.few; omega, fun r m => ⟨by have := (g.names r m).2.2.1; omega, (g.names r m).2.2.2⟩, by have := g.fewB; omega, g.okB⟩
def spReadP (K : PySem.W.Frag) (CP : Addr) : Sp := fun vs H Q _ => ∃ (rs : List (Str × List S)) (l : List S), vs = [.str (textP rs l)] ∧ Good rs l ∧ ∀ (p ra ba : Addr) (H' : Hp), Same H H' → PgS K H' CP p ra ba rs l → Q (.ref p) H'
theorem ok_read_program (B : Bi mg) (G : Gb K mg) (R : RdC K C) (RP : PgC K mg CP) {f : Addr} {fd : FuncData} (A : At K mg d_read_program "read_program" f fd) (gr : mg "Reader" = some (.ref C))
    {fi : Addr} {fdi : FuncData} (Mi : Mk K C fi) (Fi : FnOk P w K mg base CX0 1 fi fdi ["self", "words"] (spRInit C)) (Bi_ : Binds K fdi ["self", "words"] [])
    {fp : Addr} {fdp : FuncData} (Mp : Mk K CP fp) (Fp : FnOk P w K mg base CX0 4 fp fdp ["self", "routines", "body"] (spPInit K CP)) (Bp : Binds K fdp ["self", "routines", "body"] [])
    (c1 : Cal P w K mg base "split_words" ["text"] 2 spSplitW) (c2 : CalM P w K mg base C "read_routines" ["self"] 13 (spRtsR K C)) (c3 : CalM P w K mg base C "is_done" ["self"] 1 (spIsDone C)) (c4 : CalM P w K mg base C "read_statement" ["self", "expected"] 13 (spStR K C 3)) :
    Cal P w K mg base "read_program" ["text"] 14 (spReadP K CP) := by
  refine ⟨f, fd, A.F.ok sc_read_program (fun vs H Q E h => ?_) (fun cdv A' outer s H vs Q E hr h => ?_), A.m, A.F.kp, A.F.bindsN fun _ _ _ _ _ _ us hl => match us, hl with | [_], _ => rfl⟩
  · obtain ⟨rs, l, rfl, _⟩ := h
    rfl
  obtain ⟨rs, l, rfl, g, q⟩ := h
  obtain ⟨f1, fd1, G1, m1, k1, b1⟩ := c1.mono (show 2 ≤ 13 by decide)
  obtain ⟨f2, fd2, G2, m2, b2⟩ := c2
  obtain ⟨f3, fd3, G3, m3, b3⟩ := c3.mono (show 1 ≤ 13 by decide)
  obtain ⟨f4, fd4, G4, m4, b4⟩ := c4
  obtain ⟨u1, mm, rm⟩ := G.rts
  have nd := sc_read_program.nd
  refine ⟨_, PSs.nox (pss_cons (ps_set (i := 1) nd rfl (.inl rfl) (pe_make Mi Fi (hr.mono (show 1 + 1 ≤ 13 by decide)) (by rfl) gr Bi_ .nil pass0 (pa_cons (pe_call G1 hr (by rfl) m1 k1 b1 .nil pass0 (pa_cons (pv 0) pa_nil)) pa_nil)))
    (pss_cons (ps_set (i := 2) nd rfl (.inl rfl) (pe_meth0 (pv 1) R.cls m2 G2 hr b2 .nil pass0))
    (pss_cons (ps_set (i := 3) nd rfl (.inl rfl) (pe_lst pa_nil))
    (pss_cons (ps_while PassesOwn.never (pt_not (pt_val (pe_meth0 (pv 1) R.cls m3 G3 hr b3 .nil pass0)))
      (pss_mid (ps_set (i := 4) nd rfl (.inl rfl) (pe_and (pe_cmpR op_eq (pe_callB call_len_seq (by rfl) B.len PySem.boot_len (pa_cons (pv 3) pa_nil)) pe_int (nomark _)) (pe_one (pe_cmpR op_lt (pe_callB call_len_seq (by rfl) B.len PySem.boot_len (pa_cons (pv 2) pa_nil)) (pe_glob (by rfl) mm rm) (nomark _)))))
      (pss_one (ps_expr (pe_bm PySem.F.plainAttrs_list PySem.F.slot_list_append PySem.F.type_list_append mt_append (pv 3) (pa_cons (pe_meth (pv 1) R.cls m4 G4 hr b4 .nil pass0 (pa_cons (pe_ifExp (pt_val (pv 4)) pe_str pe_str) pa_nil)) pa_nil))))))
    (pss_one (ps_ret (pe_make Mp Fp (hr.mono (show 4 + 1 ≤ 13 by decide)) (by rfl) RP.gl Bp .nil pass0 (pa_cons (pv 2) (pa_cons (pv 3) pa_nil)))))))))  , ?_⟩
  obtain ⟨ll, lx⟩ := g.lines
  have pl := text_len g.parts
  -- the words
  refine ⟨_, rfl, linesP rs l, rfl, ll, lx, (show (textP rs l).length ≤ 20000 by omega), fun ww us H1 s1 nw1 w1 wl1 ul => ?_⟩
  have ew : lexes (linesP rs l) = toksRs rs ++ toksL l := lex_P g.okB fun r m => ⟨(g.names r m).1, (g.names r m).2.2.2⟩
  rw [ew] at wl1
  generalize hws : toksRs rs ++ toksL l = ws at wl1
  -- the reader
  refine fun r dx hr1 hdx1 drx => ?_
  have hrn : H r = none := Same.free s1 hr1
  refine ⟨r, dx, ww, rfl, upd_same, rfl, ?_⟩
  have keep : Same H1 (upd (upd (upd H1 dx (.own r)) r (.ins C dx [])) r (rdO C dx ww 0 0)) := fun b u e => by
    rw [upd_ne (ne_of_none e hr1), upd_ne (ne_of_none e hr1), upd_ne (ne_of_none e hdx1)]
    exact e
  have S0 : RdS (upd (upd (upd H1 dx (.own r)) r (.ins C dx [])) r (rdO C dx ww 0 0)) r C dx ww us ws 0 0 := ⟨upd_same, keep _ _ w1, wl1.up keep, ul, Nat.zero_le _, Nat.zero_le _⟩
  have sH : Same H (upd (upd (upd H1 dx (.own r)) r (.ins C dx [])) r (rdO C dx ww 0 0)) := Same.trans s1 keep
  generalize upd (upd (upd H1 dx (.own r)) r (.ins C dx [])) r (rdO C dx ww 0 0) = H0 at S0 sH
  -- the routines
  refine ⟨_, rfl, r, dx, _, rfl, S0.rd, rfl, r, dx, ww, us, ws, 0, rs, toksL l, rfl, S0, g.few, fun m hm => ⟨(g.names m hm).1, by have := (g.names m hm).2.2.1; omega, (g.names m hm).2.2.2⟩, g.nd, by rw [List.drop_zero]; exact hws.symm, (head_ne l).2, fun v H2 AF => ?_⟩
  obtain ⟨k2, r2, d2⟩ := AF
  rw [Nat.zero_add] at r2
  refine ⟨Nat.zero_le _, fun o ho => ?_⟩
  have ro : r ≠ o := ne_of_none r2 ho
  have ho0 : H0 o = none := k2.free (fun z => ro z.symm) ho
  obtain ⟨Wv, eW⟩ : ∃ Wv : Nat → L2.St → Hp → Prop, Wv = fun m σ H1 => ∃ (j : Nat) (vs : List V) (y4 : Option V), m = l.length - j ∧ j ≤ l.length ∧ σ = [some (.str (textP rs l)), some (.ref r), some v, some (.ref o), y4] ∧ (∀ b u, b ≠ r → H2 b = some u → H1 b = some u) ∧ H1 r = some (rdO C dx ww ((toksRs rs).length + (toksL (l.take j)).length) 0) ∧ Bl K H2 H1 o vs (dataL (l.take j)) := ⟨_, rfl⟩
  refine ⟨Wv, ⟨l.length, ?_⟩, fun m σ H3 hw => ?_⟩
  · rw [eW]
    refine ⟨0, [], _, rfl, Nat.zero_le _, rfl, fun b u nb e => same_new ho _ _ e, ?_, ?_⟩
    · rw [upd_ne ro, List.take_zero, toksL_nil]
      exact r2
    · rw [List.take_zero, dataL_nil]
      exact ⟨ho, upd_same, .nil⟩
  rw [eW] at hw
  obtain ⟨j, vs, y4, rfl, hj, rfl, kj', rj, bl⟩ := hw
  have mr2 : ∀ b, b = r → mu (H2 b) = true := fun b e => by rw [e, r2]; rfl
  have kj : Kp (· = r) H2 H3 := ⟨kj', fun b e _ => by rw [e, rj]; rfl⟩
  have S2 : RdS H2 r C dx ww us ws (toksRs rs).length 0 := by
    refine S0.next k2 r2 ?_ (by decide)
    have := S0.wd.len
    rw [← hws, List.length_append] at this
    omega
  have edj : ws.drop ((toksRs rs).length + (toksL (l.take j)).length) = toksL (l.drop j) := by
    have e0 : ws.drop (toksRs rs).length = toksL (l.take j) ++ toksL (l.drop j) := by rw [← hws, List.drop_left, ← toksL_app, List.take_append_drop]
    exact drop_more e0
  have wl2 : ws.length = (toksRs rs).length + ((toksL (l.take j)).length + (toksL (l.drop j)).length) := by
    have e5 : (toksL l).length = (toksL (l.take j) ++ toksL (l.drop j)).length := by rw [← toksL_app, List.take_append_drop]
    rw [List.length_append] at e5
    rw [← hws, List.length_append, e5]
  have Sj : RdS H3 r C dx ww us ws ((toksRs rs).length + (toksL (l.take j)).length) 0 := by
    refine S2.next kj rj ?_ (by decide)
    have := S0.wd.len
    omega
  have vl := bl.len
  rw [dataL_map, List.length_map, List.length_take] at vl
  have b6 := g.fewB
  refine ⟨_, rfl, r, dx, _, rfl, Sj.rd, rfl, r, dx, ww, us, ws, _, 0, rfl, Sj, _, rfl, ?_⟩
  have d3 : Dp K (nw H0 H3) v (rsD rs) := Dp.up (nw_fwd kj S0.mu) _ _ d2
  obtain ⟨vr, vrs, evr, hvS, hvA⟩ := dp_list (Dp.up (nw_le _ _) _ _ d3)
  subst evr
  by_cases hlt : j < l.length
  · have ej : l.drop j = l[j] :: l.drop (j + 1) := List.drop_eq_getElem_cons hlt
    have tp := toks_pos l[j]
    have tl : (toksL (l.drop j)).length = l[j].toks.length + (toksL (l.drop (j + 1))).length := by rw [ej, toksL_cons, List.length_append]
    rw [decide_eq_false (show ¬ ws.length ≤ (toksRs rs).length + (toksL (l.take j)).length by omega)]
    refine iteT ⟨fun σ' H' => ∃ m', m' < l.length - j ∧ Wv m' σ' H', fun σ' H' h => h, ?_⟩
    refine ⟨fun σ H' => H' = H3 ∧ ∃ b, σ = [some (.str (textP rs l)), some (.ref r), some (.ref vr), some (.ref o), some (.bl b)], ?_, fun σ H' hm => ?_⟩
    · refine ⟨_, rfl, o, vs, rfl, .inl (SqL.of bl.at_), rfl, _, rfl, ?_⟩
      exact ite2 (fun _ => ⟨_, rfl, vr, vrs, rfl, .inl hvS, _, _, rfl, rfl, rfl, _, rfl⟩) (fun _ => ⟨rfl, _, rfl⟩)
    obtain ⟨rfl, b, rfl⟩ := hm
    have fin : ∀ v2 H4, After K H' r C dx ww ((toksRs rs).length + (toksL (l.take j)).length + l[j].toks.length) 0 l[j].data v2 H4 → H4 o = some (.lst vs) ∧ vs.length < sizeLine ∧ Wv (l.length - (j + 1)) [some (.str (textP rs l)), some (.ref r), some (.ref vr), some (.ref o), some (.bl b)] (upd H4 o (.lst (vs ++ [v2]))) := fun v2 H4 AF => by
      obtain ⟨k4, r4, d4⟩ := AF
      refine ⟨k4.same _ _ (fun z => ro z.symm) bl.at_, sizes1 (by omega), ?_⟩
      rw [eW]
      have etk : l.take (j + 1) = l.take j ++ [l[j]] := by rw [List.take_add_one, List.getElem?_eq_getElem hlt]; rfl
      refine ⟨j + 1, vs ++ [v2], _, rfl, hlt, rfl, fun c u nb e => ?_, ?_, ?_⟩
      · rw [upd_ne (ne_of_none e ho)]
        exact k4.same _ _ nb (kj' c u nb e)
      · rw [upd_ne ro, etk, toksL_app, toksL_one, List.length_append, ← Nat.add_assoc]
        exact r4
      · rw [etk, dataL_app, dataL_cons, dataL_nil]
        exact (bl.keep k4 (fun z => ro z.symm) mr2).push kj bl.at_ d4
    have edj2 : ws.drop ((toksRs rs).length + (toksL (l.take j)).length) = l[j].toks ++ toksL (l.drop (j + 1)) := by rw [edj, ej, toksL_cons]
    have okj := g.okB _ (List.getElem_mem hlt)
    cases b with
    | true =>
      refine ⟨_, rfl, .inl ⟨rfl, _, SqL.of bl.at_⟩, _, rfl, r, dx, _, rfl, Sj.rd, rfl, _, rfl, _, rfl, iteT ⟨r, dx, ww, us, ws, _, 0, 2, l[j], toksL (l.drop (j + 1)), _, rfl, Sj, by decide, by decide, okj, edj2, (head_ne _).1, fun v2 H4 AF => ?_⟩⟩
      obtain ⟨a1, a2, a3⟩ := fin v2 H4 AF
      exact ⟨o, vs, v2, rfl, rfl, a1, a2, _, by omega, a3⟩
    | false =>
      refine ⟨_, rfl, .inl ⟨rfl, _, SqL.of bl.at_⟩, _, rfl, r, dx, _, rfl, Sj.rd, rfl, _, rfl, _, rfl, iteF ⟨r, dx, ww, us, ws, _, 0, 2, l[j], toksL (l.drop (j + 1)), _, rfl, Sj, by decide, by decide, okj, edj2, (head_ne _).1, fun v2 H4 AF => ?_⟩⟩
      obtain ⟨a1, a2, a3⟩ := fin v2 H4 AF
      exact ⟨o, vs, v2, rfl, rfl, a1, a2, _, by omega, a3⟩
  · have ejl : j = l.length := by omega
    subst ejl
    rw [List.drop_length, toksL_nil] at wl2
    rw [decide_eq_true (show ws.length ≤ (toksRs rs).length + (toksL (l.take l.length)).length by rw [wl2]; simp)]
    refine iteF ?_
    rw [List.take_length] at bl
    refine ⟨_, rfl, _, rfl, fun p dp hp hdp ndp => ?_⟩
    have keep2 : Same H3 (upd (upd H3 dp (.own p)) p (.ins CP dp [])) := fun b u e => by
      rw [upd_ne (ne_of_none e hp), upd_ne (ne_of_none e hdp)]
      exact e
    refine ⟨p, vr, o, dp, rs, l, rfl, upd_same, .lst (keep2.seq hvS) (DpAll.up keep2 _ _ hvA), Dp.up keep2 _ _ (Dp.up (nw_le _ _) _ _ bl.done), g.pt, fun ra' ba' H4 kp4 pg4 => ⟨rfl, q p ra' ba' H4 (fun b u e => ?_) pg4⟩⟩
    have e0 := sH b u e
    have nr : b ≠ r := ne_of_none e hrn
    have e3 := kj' b u nr (k2.same b u nr e0)
    exact kp4 b u (keep2 b u e3) (ne_of_none e3 hp)
end
end K53

/-! KV -/
/-! writing -/
namespace K53
open PySem PySem.Spec PyProof.Rows L2
section
variable {P : Program} {w : World} {K : PySem.W.Frag} {mg : Str → Option Value} {base : Heap} {CP : Addr}
def spIndent (K : PySem.W.Frag) : Sp := fun vs H Q _ => ∃ (a : Addr) (xs : List Str), vs = [.ref a] ∧ SqL K H a (xs.map V.str) ∧ xs.length ≤ 1000 ∧ (∀ x ∈ xs, x.length ≤ 100) ∧
  ∀ (p : Addr) (H' : Hp), Same H H' → H p = none → H' p = some (.lst ((ind xs).map V.str)) → Q (.ref p) H'
theorem ok_indent {f : Addr} {fd : FuncData} (A : At K mg d_indent "indent" f fd) : Cal P w K mg base "indent" ["lines"] 1 (spIndent K) := by
  refine ⟨f, fd, A.F.ok sc_indent (fun vs H Q E h => ?_) (fun cdv A' outer s H vs Q E hr h => ?_), A.m, A.F.kp, A.F.bindsN fun _ _ _ _ _ _ us hl => match us, hl with | [_], _ => rfl⟩
  · obtain ⟨a, xs, rfl, _⟩ := h
    rfl
  obtain ⟨a, xs, rfl, hS, l1, lx, q⟩ := h
  have nd := sc_indent.nd
  refine ⟨_, PSs.nox (pss_one (ps_ret (pe_lc (own := [("line", 1)]) (g := gName 1) (tt := tYes) (by rfl) nd (pi_list (pv 0)) (blkOk_by (N := ["lines", "line"]) (sc := defScope s_indent) (by decide +kernel))
        (fun _ _ _ _ _ => pg_name (i := 1) nd rfl (.inl rfl)) (fun _ _ _ _ _ => pts_nil) (fun _ _ _ _ _ => pe_op op_add_str pe_str (pv 1))))), ?_⟩
  refine ⟨_, rfl, a, rfl, ⟨_, hS⟩, fun D hDn => ?_⟩
  refine lc_list (K := K) (a := a) (xs := xs.map V.str) (fun n Hn => (∀ b u, H b = some u → Hn b = some u) ∧ Hn D = some (.lst ((ind (xs.take n)).map V.str))) ⟨same_new hDn, upd_same⟩ (fun n Hn _ hq => Same.seq hq.1 hS) (fun n x Hn hx hq => ?_) (fun Hn hq => ?_)
  · obtain ⟨s1, d1⟩ := hq
    rw [List.getElem?_map] at hx
    obtain ⟨y, hy, rfl⟩ := Option.map_eq_some_iff.mp hx
    have ly := lx y (List.mem_of_getElem? hy)
    refine ⟨rfl, _, rfl, ?_⟩
    have il : n < xs.length := (List.getElem?_eq_some_iff.mp hy).1
    refine ⟨_, _, rfl, rfl, ?_, ?_⟩
    · show ("  " : Str).length + y.length ≤ sizeLine
      rw [ln_sp2]
      exact sizes (by omega)
    refine ⟨_, d1, sizes1 (by rw [List.length_map, ind_len, List.length_take]; omega), fun b u e => ?_, ?_⟩
    · rw [upd_ne (ne_of_none e hDn)]
      exact s1 b u e
    · rw [upd_same, List.take_add_one, hy]
      show some (HO.lst (_ ++ [V.str ("  " ++ y)])) = some (HO.lst ((ind (xs.take n ++ [y])).map V.str))
      unfold ind
      rw [List.map_append, List.map_append]
      rfl
  · obtain ⟨s1, d1⟩ := hq
    rw [List.length_map, List.take_length] at d1
    exact q D Hn s1 hDn d1
/-! ### write_statement, write_list -/
def spWs (K : PySem.W.Frag) (n : Nat) : Sp := fun vs H Q _ => ∃ (v : V) (d : Nat) (s : S), vs = [v] ∧ d < n ∧ d ≤ 2 ∧ Ok d s ∧ Dp K H v s.data ∧ ∀ (p : Addr) (H' : Hp), Same H H' → H p = none → H' p = some (.lst (s.lines.map V.str)) → Q (.ref p) H'
def spWl (K : PySem.W.Frag) (n : Nat) : Sp := fun vs H Q _ => ∃ (a : Addr) (d : Nat) (l : List S), vs = [.ref a] ∧ d < n ∧ d ≤ 2 ∧ OkL d l ∧ l.length ≤ 6 ∧ Dp K H (.ref a) (.list (dataL l)) ∧ ∀ (p : Addr) (H' : Hp), Same H H' → H p = none → H' p = some (.lst ((linesL l).map V.str)) → Q (.ref p) H'
theorem st_lines {d : Nat} {s : S} (hd : d ≤ 2) (h : Ok d s) : s.lines.length ≤ 31 ∧ ∀ x ∈ s.lines, x.length ≤ 34 := by
  obtain ⟨h1, h2⟩ := lines_S d s h
  have hm : most d ≤ 31 := by
    rcases (show d = 0 ∨ d = 1 ∨ d = 2 by omega) with rfl | rfl | rfl <;> decide
  exact ⟨by omega, fun x hx => by have := (h2 x hx).2; omega⟩
theorem ok_write_list {f : Addr} {fd : FuncData} (A : At K mg d_write_list "write_list" f fd) {n L : Nat} (c1 : Cal P w K mg base "write_statement" ["statement"] L (spWs K n)) : Cal P w K mg base "write_list" ["statements"] (L + 1) (spWl K n) := by
  refine ⟨f, fd, A.F.ok sc_write_list (fun vs H Q E h => ?_) (fun cdv A' outer s H vs Q E hr h => ?_), A.m, A.F.kp, A.F.bindsN fun _ _ _ _ _ _ us hl => match us, hl with | [_], _ => rfl⟩
  · obtain ⟨a, d, l, rfl, _⟩ := h
    rfl
  obtain ⟨a, d, l, rfl, dn, d2, okl, l6, hl, q⟩ := h
  obtain ⟨f1, fd1, G1, m1, k1, b1⟩ := c1
  have nd := sc_write_list.nd
  refine ⟨_, PSs.nox (pss_cons (ps_set (i := 1) nd rfl (.inl rfl) (pe_lst pa_nil))
    (pss_cons (ps_for PassesOwn.never rfl (pi_list (pv 0)) (pg_name (i := 2) nd rfl (.inl rfl))
      (pss_one (ps_expr (pe_bm PySem.F.plainAttrs_list PySem.F.slot_list_extend PySem.F.type_list_extend mt_extend (pv 1) (pa_cons (pe_call G1 hr (by rfl) m1 k1 b1 .nil pass0 (pa_cons (pv 2) pa_nil)) pa_nil)))))
    (pss_one (ps_ret (pv 1))))), ?_⟩
  obtain ⟨a0, xs, ea, hS, hA⟩ := dp_list hl
  cases ea
  have xl : xs.length = l.length := by rw [all_len hA, dataL_map, List.length_map]
  obtain ⟨fl, fx⟩ := few_lines d2 okl l6
  refine ⟨Nat.zero_le _, fun o ho => ?_⟩
  obtain ⟨Pv, ePv⟩ : ∃ Pv : Nat → L2.St → Hp → Prop, Pv = fun i σ H1 => ∃ (y2 : Option V), σ = [some (.ref a), some (.ref o), y2] ∧ (∀ b u, H b = some u → H1 b = some u) ∧ H1 o = some (.lst ((linesL (l.take i)).map V.str)) := ⟨_, rfl⟩
  refine ⟨_, rfl, a, rfl, ⟨_, (same_new ho).seq hS⟩, for_list (K := K) (a := a) (xs := xs) Pv (by rw [ePv]; exact ⟨_, rfl, same_new ho, by rw [List.take_zero, linesL_nil]; exact upd_same⟩) (fun i σ H1 _ hp => by
    rw [ePv] at hp
    obtain ⟨_, _, s1, _⟩ := hp
    exact Same.seq s1 hS) (fun i x σ H1 hx hp => ?_) (fun σ H1 hp => ?_)⟩
  · rw [ePv] at hp
    obtain ⟨y2, rfl, s1, o1⟩ := hp
    obtain ⟨dat, hdat, hdx⟩ := all_get hA hx
    obtain ⟨st, hst, rfl, hmem⟩ := data_at hdat
    have il : i < l.length := (List.getElem?_eq_some_iff.mp hst).1
    have tk := take_st hst
    obtain ⟨sl, _⟩ := st_lines d2 (okl st hmem)
    have tl : (linesL (l.take i)).length ≤ 186 := (few_lines d2 (okl_take i okl) (by rw [List.length_take]; omega)).1
    refine ⟨_, rfl, .inl ⟨rfl, _, SqL.of o1⟩, _, rfl, x, d, st, rfl, dn, d2, okl st hmem, Dp.up s1 _ _ hdx, fun p H2 s2 np hp2 => ?_⟩
    have op : o ≠ p := ne_of_none o1 np
    refine ⟨o, p, _, _, rfl, rfl, s2 _ _ o1, hp2, sizes (by rw [List.length_map, List.length_map]; omega), ?_⟩
    show Pv (i + 1) _ _
    rw [ePv]
    refine ⟨_, rfl, fun b u e => ?_, ?_⟩
    · rw [upd_ne (ne_of_none e ho)]
      exact s2 _ _ (s1 b u e)
    · rw [upd_same, tk, List.map_append]
  · rw [ePv] at hp
    obtain ⟨y2, rfl, s1, o1⟩ := hp
    rw [List.take_of_length_le (by omega)] at o1
    exact ⟨_, rfl, q o H1 s1 ho o1⟩
theorem ok_write_st (B : Bi mg) {f : Addr} {fd : FuncData} (A : At K mg d_write_statement "write_statement" f fd) {n L : Nat} (hL : 1 ≤ L) (c1 : Cal P w K mg base "write_list" ["statements"] L (spWl K n)) (c2 : Cal P w K mg base "indent" ["lines"] 1 (spIndent K)) :
    Cal P w K mg base "write_statement" ["statement"] (L + 1) (spWs K (n + 1)) := by
  refine ⟨f, fd, A.F.ok sc_write_statement (fun vs H Q E h => ?_) (fun cdv A' outer s H vs Q E hr h => ?_), A.m, A.F.kp, A.F.bindsN fun _ _ _ _ _ _ us hl => match us, hl with | [_], _ => rfl⟩
  · obtain ⟨v, d, l, rfl, _⟩ := h
    rfl
  obtain ⟨v, d, st, rfl, dn, d2, ok, hv, q⟩ := h
  obtain ⟨f1, fd1, G1, m1, k1, b1⟩ := c1
  obtain ⟨f2, fd2, G2, m2, k2, b2⟩ := c2.mono hL
  have nd := sc_write_statement.nd
  refine ⟨_, PSs.nox (pss_cons (ps_set (i := 1) nd rfl (.inl rfl) (pe_ix ix_tup (pv 0) pe_int (fun _ _ => rfl)))
    (pss_cons (ps_if (PW.pt (pw_or (pt_cmpR op_eq (pv 1) pe_str (nomark _)) (pw_or1 (pt_cmpR op_eq (pv 1) pe_str (nomark _)))))
      (pss_cons (ps_set (i := 2) nd rfl (.inl rfl) (pe_ifExp (pt_val (pe_ix ix_tup (pv 0) pe_int (fun _ _ => rfl))) pe_str pe_str))
      (pss_one (ps_ret (pe_lst (pa_cons (pe_joined (.cons (pe_fmt (pv 1)) (.cons pe_str (.cons (pe_fmt (pe_ix ix_tup (pv 0) pe_int (fun _ _ => rfl))) (.cons pe_str (.cons (pe_fmt (pv 2)) .nil)))))) pa_nil))))) pss_nil)
    (pss_cons (ps_if (pt_cmpR op_eq (pv 1) pe_str (nomark _)) (pss_one (ps_ret (pe_lst (pa_cons pe_str pa_nil)))) pss_nil)
    (pss_cons (ps_if (pt_cmpR op_eq (pv 1) pe_str (nomark _))
      (pss_one (ps_ret (pe_op op_cat (pe_op op_cat (pe_lst (pa_cons (pe_op op_add_str (pe_joined (.cons pe_str (.cons (pe_fmt (pe_ix ix_tup (pv 0) pe_int (fun _ _ => rfl))) (.cons pe_str .nil)))) pe_str) pa_nil))
        (pe_call G2 hr (by rfl) m2 k2 b2 .nil pass0 (pa_cons (pe_call G1 hr (by rfl) m1 k1 b1 .nil pass0 (pa_cons (pe_ix ix_tup (pv 0) pe_int (fun _ _ => rfl)) pa_nil)) pa_nil))) (pe_lst (pa_cons pe_str pa_nil))))) pss_nil)
    (pss_cons (ps_if (pt_cmpR op_eq (pv 1) pe_str (nomark _))
      (pss_cons (ps_set (i := 3) nd rfl (.inl rfl) (pe_op op_cat (pe_lst (pa_cons (pe_op op_add_str (pe_joined (.cons pe_str (.cons (pe_fmt (pe_ix ix_tup (pv 0) pe_int (fun _ _ => rfl))) (.cons pe_str .nil)))) pe_str) pa_nil))
        (pe_call G2 hr (by rfl) m2 k2 b2 .nil pass0 (pa_cons (pe_call G1 hr (by rfl) m1 k1 b1 .nil pass0 (pa_cons (pe_ix ix_tup (pv 0) pe_int (fun _ _ => rfl)) pa_nil)) pa_nil))))
      (pss_mid (ps_if (pt_cmpR op_gt (pe_callB call_len_seq (by rfl) B.len PySem.boot_len (pa_cons (pe_ix ix_tup (pv 0) pe_int (fun _ _ => rfl)) pa_nil)) pe_int (nomark _))
        (pss_one (ps_set (i := 3) nd rfl (.inl rfl) (pe_op op_cat (pe_op op_cat (pv 3) (pe_lst (pa_cons pe_str pa_nil)))
          (pe_call G2 hr (by rfl) m2 k2 b2 .nil pass0 (pa_cons (pe_call G1 hr (by rfl) m1 k1 b1 .nil pass0 (pa_cons (pe_ix ix_tup (pv 0) pe_int (fun _ _ => rfl)) pa_nil)) pa_nil))))) pss_nil)
      (pss_one (ps_ret (pe_op op_cat (pv 3) (pe_lst (pa_cons pe_str pa_nil))))))) pss_nil)
    (pss_one (ps_ret (pe_lst (pa_cons (pe_joined (.cons (pe_fmt (pv 1)) (.cons pe_str (.cons (pe_fmt (pe_ix ix_tup (pv 0) pe_int (fun _ _ => rfl))) .nil)))) pa_nil))))))))), ?_⟩
  have e0 : Str.empty.length = 0 := rfl
  have e1 := ln_sp
  have sz : ∀ {x : Str}, x.length ≤ 1000 → x.length ≤ sizeLine := fun h => sizes (by omega)
  have one : ∀ {n : Nat}, n ≤ 1 → n ≤ sizeLine := fun h => sizes (by omega)
  have sa := stAt ok hv
  cases sa with
  | two k n p pw e t lt ot nk =>
    subst e
    have lk := pw.len
    have ln := nk.len.2
    refine ⟨_, rfl, p, _, 0, _, rfl, rfl, t, atN 0 rfl, ?_⟩
    refine ⟨_, rfl, rfl, _, rfl, itN pw.n3 ⟨_, rfl, rfl, _, rfl, itN pw.n4 ?_⟩⟩
    refine ⟨_, rfl, rfl, _, rfl, itN pw.n5 ⟨_, rfl, rfl, _, rfl, itN pw.n2 ⟨_, rfl, rfl, _, rfl, itN pw.n1 ?_⟩⟩⟩
    refine ⟨_, rfl, .inl ⟨k, rfl, sz (by omega), k, rfl, sz (by rw [len_app]; omega), " ", rfl, sz (by rw [len_app, len_app]; omega), _, rfl, p, _, 1, _, rfl, rfl, t, atN 1 rfl, .inl ⟨n, rfl, sz (by omega), n, rfl, sz (by rw [len_app, len_app, len_app]; omega), one (Nat.le_refl _), fun r hr => q r _ (same_new hr) hr ?_⟩⟩⟩
    rw [upd_same, lt, empty_app]
    rfl
  | sw k n b p hk e t lt ot nk =>
    subst e
    have lk : k.length ≤ 4 := by rcases hk with rfl | rfl <;> decide +kernel
    have ln := nk.len.2
    have lo : (onoff b).length ≤ 3 := by cases b <;> decide +kernel
    have body : (tSeq (tAsg (tIf (tB (tOp (rIxT K) (tVar 0) (tC (.int 2)))) (tC (.str "on")) (tC (.str "off"))) (gName 2)) (tRet (tLst (tCons (fun σ H Q => tJs [tFmt (tVar 1), tC (.str " "), tFmt (tOp (rIxT K) (tVar 0) (tC (.int 1))), tC (.str " "), tFmt (tVar 2)] Str.empty σ H fun out H1 => Q (.str out) H1) tNil)))) { nx := fun _ _ => True, rt := Q, bk := fun _ _ => True, ct := fun _ _ => True } [some (.ref p), some (.str k), none, none] H := by
      cases b with
      | true =>
        refine ⟨_, rfl, p, _, 2, _, rfl, rfl, t, atN 2 rfl, _, rfl, iteT ?_⟩
        refine ⟨_, rfl, .inl ⟨k, rfl, sz (by omega), k, rfl, sz (by rw [len_app]; omega), " ", rfl, sz (by rw [len_app, len_app]; omega), _, rfl, p, _, 1, _, rfl, rfl, t, atN 1 rfl, .inl ⟨n, rfl, sz (by omega), n, rfl, sz (by rw [len_app, len_app, len_app]; omega),
          " ", rfl, sz (by rw [len_app, len_app, len_app, len_app]; omega), _, rfl, .inl ⟨onoff true, rfl, sz (by omega), onoff true, rfl, sz (by rw [len_app, len_app, len_app, len_app, len_app]; omega), one (Nat.le_refl _), fun r hr => q r _ (same_new hr) hr ?_⟩⟩⟩⟩
        rw [upd_same, lt, empty_app]
        rfl
      | false =>
        refine ⟨_, rfl, p, _, 2, _, rfl, rfl, t, atN 2 rfl, _, rfl, iteF ?_⟩
        refine ⟨_, rfl, .inl ⟨k, rfl, sz (by omega), k, rfl, sz (by rw [len_app]; omega), " ", rfl, sz (by rw [len_app, len_app]; omega), _, rfl, p, _, 1, _, rfl, rfl, t, atN 1 rfl, .inl ⟨n, rfl, sz (by omega), n, rfl, sz (by rw [len_app, len_app, len_app]; omega),
          " ", rfl, sz (by rw [len_app, len_app, len_app, len_app]; omega), _, rfl, .inl ⟨onoff false, rfl, sz (by omega), onoff false, rfl, sz (by rw [len_app, len_app, len_app, len_app, len_app]; omega), one (Nat.le_refl _), fun r hr => q r _ (same_new hr) hr ?_⟩⟩⟩⟩
        rw [upd_same, lt, empty_app]
        rfl
    refine ⟨_, rfl, p, _, 0, _, rfl, rfl, t, atN 0 rfl, ?_⟩
    rcases hk with rfl | rfl
    · exact ⟨_, rfl, rfl, _, rfl, itS rfl body⟩
    · exact ⟨_, rfl, rfl, _, rfl, itN (by decide +kernel) ⟨_, rfl, rfl, _, rfl, itS rfl body⟩⟩
  | rel p e t lt ot =>
    subst e
    refine ⟨_, rfl, p, _, 0, _, rfl, rfl, t, atN 0 rfl, ?_⟩
    refine ⟨_, rfl, rfl, _, rfl, itN (by decide +kernel) ⟨_, rfl, rfl, _, rfl, itN (by decide +kernel) ?_⟩⟩
    refine ⟨_, rfl, rfl, _, rfl, itS rfl ⟨one (Nat.le_refl _), fun r hr => q r _ (same_new hr) hr ?_⟩⟩
    rw [upd_same, lt]
    rfl
  | iff n a b p u w' c hd e t du dw es nk la lb oa ob =>
    subst e es hd
    obtain ⟨u0, us, eu, huS, huA⟩ := dp_list du
    cases eu
    obtain ⟨w0, ws, ew, hwS, hwA⟩ := dp_list dw
    cases ew
    have ln := nk.len.2
    have ei := ln_if
    have eo := ln_op
    have ek : ("{" : Str).length = 1 := by decide +kernel
    obtain ⟨fa, fa2⟩ := few_lines (by omega) oa (by omega)
    obtain ⟨fb, fb2⟩ := few_lines (by omega) ob (by omega)
    refine ⟨_, rfl, p, _, 0, _, rfl, rfl, t, atN 0 rfl, ?_⟩
    refine ⟨_, rfl, rfl, _, rfl, itN (by decide +kernel) ⟨_, rfl, rfl, _, rfl, itN (by decide +kernel) ?_⟩⟩
    refine ⟨_, rfl, rfl, _, rfl, itN (by decide +kernel) ⟨_, rfl, rfl, _, rfl, itN (by decide +kernel) ⟨_, rfl, rfl, _, rfl, itS rfl ?_⟩⟩⟩
    refine ⟨"if ", rfl, sz (by rw [len_app]; omega), _, rfl, p, _, 1, _, rfl, rfl, t, atN 1 rfl, .inl ⟨n, rfl, sz (by omega), n, rfl, sz (by rw [len_app, len_app]; omega), " ", rfl, sz (by rw [len_app, len_app, len_app]; omega), _, _, rfl, rfl, sizes (by rw [len_app, len_app, len_app]; omega), one (Nat.le_refl _), fun h0 nh0 => ?_⟩⟩
    have eh : Str.empty ++ "if " ++ n ++ " " ++ ("{" : Str) = headIf n := by
      have e3 : (" {" : Str) = " " ++ "{" := by decide +kernel
      unfold headIf
      rw [empty_app, app_assoc ("if " ++ n), e3]
    rw [eh]
    have s1 : Same H (upd H h0 (.lst [.str (headIf n)])) := same_new nh0
    have hh0 : upd H h0 (.lst [.str (headIf n)]) h0 = some (.lst [.str (headIf n)]) := upd_same
    generalize upd H h0 (.lst [.str (headIf n)]) = H1 at s1 hh0
    refine ⟨_, rfl, p, _, 2, _, rfl, rfl, Same.sqt s1 t, atN 2 rfl, u0, c, a, rfl, by omega, by omega, oa, by omega, Dp.up s1 _ _ du, fun p1 H2 s2 np1 hp1 => ?_⟩
    refine ⟨p1, linesL a, rfl, SqL.of hp1, by omega, fun x hx => by have := fa2 x hx; omega, fun p2 H3 s3 np2 hp2 => ?_⟩
    refine ⟨h0, p2, _, _, rfl, rfl, s3 _ _ (s2 _ _ hh0), hp2, sizes (by rw [List.length_map, ind_len]; show 1 + _ ≤ _; omega), fun p3 np3 => ?_⟩
    have s13 : Same H (upd H3 p3 (.lst ([.str (headIf n)] ++ (ind (linesL a)).map V.str))) := Same.trans s1 (Same.trans s2 (Same.trans s3 (same_new np3)))
    have hp3 : upd H3 p3 (.lst ([.str (headIf n)] ++ (ind (linesL a)).map V.str)) p3 = some (.lst ((headIf n :: ind (linesL a)).map V.str)) := upd_same
    generalize upd H3 p3 (.lst ([.str (headIf n)] ++ (ind (linesL a)).map V.str)) = H4 at s13 hp3
    refine ⟨fun σ H5 => ∃ p5, σ = [some (.ref p), some (.str "if"), none, some (.ref p5)] ∧ Same H H5 ∧ H5 p5 = some (.lst ((headIf n :: ind (linesL a) ++ (if b.isEmpty then [] else ("} else {" : Str) :: ind (linesL b))).map V.str)), ?_, fun σ H5 hm => ?_⟩
    · refine ⟨_, rfl, p, _, 3, _, rfl, rfl, Same.sqt s13 t, atN 3 rfl, w0, _, rfl, .inl (Same.seq s13 hwS), _, _, rfl, rfl, _, rfl, ?_⟩
      have wl : ws.length = b.length := by rw [all_len hwA, dataL_map, List.length_map]
      cases hb : b.isEmpty with
      | true =>
        have eb : b = [] := List.isEmpty_iff.mp hb
        rw [wl, eb]
        refine iteF ⟨p3, rfl, s13, ?_⟩
        rw [hp3, if_pos rfl, List.append_nil]
      | false =>
        have nb : 0 < b.length := by
          cases b with
          | nil => cases hb
          | cons _ _ => exact Nat.succ_pos _
        rw [decide_eq_true (show (0 : Int) < ((ws.length : Nat) : Int) by omega)]
        refine iteT ⟨_, rfl, one (Nat.le_refl _), fun q1 nq1 => ?_⟩
        have s5 := Same.trans s13 (same_new nq1 (o := .lst [.str "} else {"]))
        have h31 : upd H4 q1 (.lst [.str "} else {"]) p3 = _ := same_new nq1 _ _ hp3
        refine ⟨p3, q1, _, _, rfl, rfl, h31, upd_same, sizes (by rw [List.length_map, List.length_cons, ind_len]; show _ + 1 ≤ _; omega), fun q2 nq2 => ?_⟩
        have s6 := Same.trans s5 (same_new nq2 (o := .lst ((headIf n :: ind (linesL a)).map V.str ++ [.str "} else {"])))
        have hq2 : upd (upd H4 q1 (.lst [.str "} else {"])) q2 (.lst ((headIf n :: ind (linesL a)).map V.str ++ [.str "} else {"])) q2 = some (.lst ((headIf n :: ind (linesL a)).map V.str ++ [.str "} else {"])) := upd_same
        generalize upd (upd H4 q1 (.lst [.str "} else {"])) q2 (.lst ((headIf n :: ind (linesL a)).map V.str ++ [.str "} else {"])) = H6 at s6 hq2
        refine ⟨_, rfl, p, _, 3, _, rfl, rfl, Same.sqt s6 t, atN 3 rfl, w0, c, b, rfl, by omega, by omega, ob, by omega, Dp.up s6 _ _ dw, fun p7 H7 s7 np7 hp7 => ?_⟩
        refine ⟨p7, linesL b, rfl, SqL.of hp7, by omega, fun x hx => by have := fb2 x hx; omega, fun p8 H8 s8 np8 hp8 => ?_⟩
        refine ⟨q2, p8, _, _, rfl, rfl, s8 _ _ (s7 _ _ hq2), hp8, sizes (by rw [List.length_append, List.length_map, List.length_map, List.length_cons, ind_len, ind_len]; show _ + 1 + 1 + _ ≤ _; omega), fun p9 np9 => ?_⟩
        refine ⟨p9, rfl, Same.trans s6 (Same.trans s7 (Same.trans s8 (same_new np9))), ?_⟩
        rw [upd_same, if_neg Bool.false_ne_true, List.map_append, List.append_assoc]
        rfl
    · obtain ⟨p5, rfl, s5, hp5⟩ := hm
      refine ⟨_, rfl, one (Nat.le_refl _), fun q1 nq1 => ?_⟩
      have ll : (headIf n :: ind (linesL a) ++ (if b.isEmpty then [] else ("} else {" : Str) :: ind (linesL b))).length ≤ 400 := by
        rw [List.length_append, List.length_cons, ind_len]
        split
        · rw [List.length_nil]; omega
        · rw [List.length_cons, ind_len]; omega
      refine ⟨p5, q1, _, _, rfl, rfl, same_new nq1 _ _ hp5, upd_same, sizes (by rw [List.length_map]; show _ + 1 ≤ _; omega), fun q2 nq2 => ?_⟩
      refine q q2 _ (Same.trans s5 (Same.trans (same_new nq1) (same_new nq2))) ?_ ?_
      · exact (Same.trans s5 (same_new nq1)).free nq2
      · rw [upd_same, lines_iff]
        show some (HO.lst (_ ++ [V.str "}"])) = _
        rw [show [V.str "}"] = List.map V.str [("}" : Str)] from rfl, ← List.map_append]
        rw [List.append_assoc]
        rfl
  | rep k a p u c hd e t du es k1 k3 la oa =>
    subst e es hd
    obtain ⟨u0, us, eu, huS, huA⟩ := dp_list du
    cases eu
    have ln := len_num k1 k3
    have ei := ln_rep
    have eo := ln_op
    have ek : ("{" : Str).length = 1 := by decide +kernel
    obtain ⟨fa, fa2⟩ := few_lines (by omega) oa (by omega)
    have lg : ((k : Int)).natAbs.log2 < 1920 := by
      rcases num_cases k1 k3 with rfl | rfl | rfl <;> decide +kernel
    refine ⟨_, rfl, p, _, 0, _, rfl, rfl, t, atN 0 rfl, ?_⟩
    refine ⟨_, rfl, rfl, _, rfl, itN (by decide +kernel) ⟨_, rfl, rfl, _, rfl, itN (by decide +kernel) ?_⟩⟩
    refine ⟨_, rfl, rfl, _, rfl, itN (by decide +kernel) ⟨_, rfl, rfl, _, rfl, itS rfl ?_⟩⟩
    refine ⟨"repeat ", rfl, sz (by rw [len_app]; omega), _, rfl, p, _, 1, _, rfl, rfl, t, atN 1 rfl, .inr ⟨(k : Int), rfl, lg, (toString (k : Int) : Str), rfl, sz (by rw [len_app, len_app]; omega), " ", rfl, sz (by rw [len_app, len_app, len_app]; omega), _, _, rfl, rfl, sizes (by rw [len_app, len_app, len_app]; omega), one (Nat.le_refl _), fun h0 nh0 => ?_⟩⟩
    have eh : Str.empty ++ "repeat " ++ (toString (k : Int) : Str) ++ " " ++ ("{" : Str) = headRep k := by
      have e3 : (" {" : Str) = " " ++ "{" := by decide +kernel
      unfold headRep
      rw [empty_app, app_assoc ("repeat " ++ (toString (k : Int) : Str)), e3]
    rw [eh]
    have s1 : Same H (upd H h0 (.lst [.str (headRep k)])) := same_new nh0
    have hh0 : upd H h0 (.lst [.str (headRep k)]) h0 = some (.lst [.str (headRep k)]) := upd_same
    generalize upd H h0 (.lst [.str (headRep k)]) = H1 at s1 hh0
    refine ⟨_, rfl, p, _, 2, _, rfl, rfl, Same.sqt s1 t, atN 2 rfl, u0, c, a, rfl, by omega, by omega, oa, by omega, Dp.up s1 _ _ du, fun p1 H2 s2 np1 hp1 => ?_⟩
    refine ⟨p1, linesL a, rfl, SqL.of hp1, by omega, fun x hx => by have := fa2 x hx; omega, fun p2 H3 s3 np2 hp2 => ?_⟩
    refine ⟨h0, p2, _, _, rfl, rfl, s3 _ _ (s2 _ _ hh0), hp2, sizes (by rw [List.length_map, ind_len]; show 1 + _ ≤ _; omega), fun p3 np3 => ?_⟩
    have s13 : Same H (upd H3 p3 (.lst ([.str (headRep k)] ++ (ind (linesL a)).map V.str))) := Same.trans s1 (Same.trans s2 (Same.trans s3 (same_new np3)))
    have hp3 : upd H3 p3 (.lst ([.str (headRep k)] ++ (ind (linesL a)).map V.str)) p3 = some (.lst ((headRep k :: ind (linesL a)).map V.str)) := upd_same
    generalize upd H3 p3 (.lst ([.str (headRep k)] ++ (ind (linesL a)).map V.str)) = H4 at s13 hp3
    refine ⟨one (Nat.le_refl _), fun q1 nq1 => ?_⟩
    refine ⟨p3, q1, _, _, rfl, rfl, same_new nq1 _ _ hp3, upd_same, sizes (by rw [List.length_map, List.length_cons, ind_len]; show _ + 1 ≤ _; omega), fun q2 nq2 => ?_⟩
    refine q q2 _ (Same.trans s13 (Same.trans (same_new nq1) (same_new nq2))) ((Same.trans s13 (same_new nq1)).free nq2) ?_
    rw [upd_same, lines_rep]
    show some (HO.lst (_ ++ [V.str "}"])) = _
    rw [show [V.str "}"] = List.map V.str [("}" : Str)] from rfl, ← List.map_append]
    rfl
end
end K53

/-! KV2 -/
/-! write_program -/
namespace K53
open PySem PySem.Spec PyProof.Rows L2
section
variable {P : Program} {w : World} {K : PySem.W.Frag} {mg : Str → Option Value} {base : Heap} {CP : Addr}
theorem cal_ws (B : Bi mg) {f : Addr} {fd : FuncData} (A : At K mg d_write_statement "write_statement" f fd) {f2 : Addr} {fd2 : FuncData} (A2 : At K mg d_write_list "write_list" f2 fd2) (c : Cal P w K mg base "indent" ["lines"] 1 (spIndent K)) :
    ∀ n, Cal P w K mg base "write_statement" ["statement"] (1 + 2 * n) (spWs K n)
  | 0 => ⟨f, fd, vac fun vs H Q E h => by
      obtain ⟨v, d, s, _, dn, _⟩ := h
      exact absurd dn (Nat.not_lt_zero _), A.m, A.F.kp, A.F.bindsN fun _ _ _ _ _ _ us hl => match us, hl with | [_], _ => rfl⟩
  | n + 1 => ok_write_st B A (Nat.le_add_left 1 _) (ok_write_list A2 (cal_ws B A A2 c n)) c
theorem cal_wl (B : Bi mg) {f : Addr} {fd : FuncData} (A : At K mg d_write_statement "write_statement" f fd) {f2 : Addr} {fd2 : FuncData} (A2 : At K mg d_write_list "write_list" f2 fd2) (c : Cal P w K mg base "indent" ["lines"] 1 (spIndent K)) :
    Cal P w K mg base "write_list" ["statements"] 8 (spWl K 3) := ok_write_list A2 (cal_ws B A A2 c 3)
def spWriteP (K : PySem.W.Frag) (CP : Addr) : Sp := fun vs H Q _ => ∃ (p ra ba : Addr) (rs : List (Str × List S)) (l : List S), vs = [.ref p] ∧ PgS K H CP p ra ba rs l ∧ Parts rs l ∧ ∀ H', Same H H' → Q (.str (textP rs l)) H'
theorem ok_write_program (R : PgC K mg CP) {f : Addr} {fd : FuncData} (A : At K mg d_write_program "write_program" f fd) (c1 : Cal P w K mg base "write_list" ["statements"] 8 (spWl K 3)) (c2 : Cal P w K mg base "indent" ["lines"] 1 (spIndent K)) :
    Cal P w K mg base "write_program" ["program"] 9 (spWriteP K CP) := by
  refine ⟨f, fd, A.F.ok sc_write_program (fun vs H Q E h => ?_) (fun cdv A' outer s H vs Q E hr h => ?_), A.m, A.F.kp, A.F.bindsN fun _ _ _ _ _ _ us hl => match us, hl with | [_], _ => rfl⟩
  · obtain ⟨p, ra, ba, rs, l, rfl, _⟩ := h
    rfl
  obtain ⟨p, ra, ba, rs, l, rfl, S, pt, q⟩ := h
  obtain ⟨f1, fd1, G1, m1, k1, b1⟩ := c1
  obtain ⟨f2, fd2, G2, m2, k2, b2⟩ := c2.mono (show 1 ≤ 8 by decide)
  have nd := sc_write_program.nd
  refine ⟨_, PSs.nox (pss_cons (ps_set (i := 1) nd rfl (.inl rfl) (pe_lst pa_nil))
    (pss_cons (ps_for PassesOwn.never rfl (pi_list (pe_fld (pv 0) (by rfl))) (pg_tup (by rfl) (pgs_cons (pg_name (i := 2) nd rfl (.inl rfl)) (pgs_cons (pg_name (i := 3) nd rfl (.inl rfl)) pgs_nil)))
      (pss_cons (ps_expr (pe_bm PySem.F.plainAttrs_list PySem.F.slot_list_append PySem.F.type_list_append mt_append (pv 1) (pa_cons (pe_op op_add_str (pe_joined (.cons pe_str (.cons (pe_fmt (pv 2)) (.cons pe_str .nil)))) pe_str) pa_nil)))
      (pss_cons (ps_expr (pe_bm PySem.F.plainAttrs_list PySem.F.slot_list_extend PySem.F.type_list_extend mt_extend (pv 1) (pa_cons (pe_call G2 hr (by rfl) m2 k2 b2 .nil pass0 (pa_cons (pe_call G1 hr (by rfl) m1 k1 b1 .nil pass0 (pa_cons (pv 3) pa_nil)) pa_nil)) pa_nil)))
      (pss_one (ps_expr (pe_bm PySem.F.plainAttrs_list PySem.F.slot_list_append PySem.F.type_list_append mt_append (pv 1) (pa_cons pe_str pa_nil)))))))
    (pss_cons (ps_expr (pe_bm PySem.F.plainAttrs_list PySem.F.slot_list_extend PySem.F.type_list_extend mt_extend (pv 1) (pa_cons (pe_call G1 hr (by rfl) m1 k1 b1 .nil pass0 (pa_cons (pe_fld (pv 0) (by rfl)) pa_nil)) pa_nil)))
    (pss_one (ps_ret (pe_join pe_str (pe_lc (own := [("line", 4)]) (g := gName 4) (tt := tYes) (by rfl) nd (pi_list (pv 1)) (blkOk_by (N := ["program", "lines", "name", "statements", "line"]) (sc := defScope s_write_program) (by decide +kernel))
        (fun _ _ _ _ _ => pg_name (i := 4) nd rfl (.inl rfl)) (fun _ _ _ _ _ => pts_nil) (fun _ _ _ _ _ => pe_op op_add_str (pv 4) pe_str)))))))), ?_⟩
  obtain ⟨dx, hp⟩ := S.pg
  obtain ⟨ra0, xs, er, hrS, hrA⟩ := dp_list S.dr
  cases er
  have xl : xs.length = rs.length := by rw [all_len hrA, List.length_map]
  obtain ⟨nR, xR, nB, xB⟩ := pt.lines
  have pf := pt.few
  have e0 : Str.empty.length = 0 := rfl
  have e1 := ln_sp
  have e8 := ln_rt
  have ek : ("{" : Str).length = 1 := by decide +kernel
  have sz : ∀ {x : Str}, x.length ≤ 1000 → x.length ≤ sizeLine := fun h => sizes (by omega)
  refine ⟨Nat.zero_le _, fun o ho => ?_⟩
  have keep : ∀ {H2 : Hp} {zs : List V}, Same H H2 → Same H (upd H2 o (.lst zs)) := fun s2 b u e => by
    rw [upd_ne (ne_of_none e ho)]
    exact s2 b u e
  have ty : ∀ {H2 : Hp} {zs : List V}, H2 o = some (.lst zs) → tyV K "list" (.ref o) H2 := fun e => .inl ⟨rfl, _, SqL.of e⟩
  obtain ⟨Pv, ePv⟩ : ∃ Pv : Nat → L2.St → Hp → Prop, Pv = fun i σ H1 => ∃ (y2 y3 y4 : Option V), σ = [some (.ref p), some (.ref o), y2, y3, y4] ∧ Same H H1 ∧ H1 o = some (.lst (((rs.take i).flatMap linesR).map V.str)) := ⟨_, rfl⟩
  refine ⟨_, rfl, p, CP, dx, _, _, rfl, same_new ho _ _ hp, R.cls, R.nr, rfl, ra, rfl, ⟨_, (same_new ho).seq hrS⟩, for_list (K := K) (a := ra) (xs := xs) Pv (by rw [ePv]; exact ⟨_, _, _, rfl, same_new ho, upd_same⟩) (fun i σ H1 _ hq => by
    rw [ePv] at hq
    obtain ⟨_, _, _, _, s1, _⟩ := hq
    exact s1.seq hrS) (fun i x σ H1 hx hq => ?_) (fun σ H1 hq => ?_)⟩
  · rw [ePv] at hq
    obtain ⟨y2, y3, y4, rfl, s1, o1⟩ := hq
    obtain ⟨dat, hdat, hdx⟩ := all_get hrA hx
    obtain ⟨r, hr', rfl, hmem⟩ := rt_get hdat
    obtain ⟨nk, l3, ok1⟩ := pt.names r hmem
    obtain ⟨p0, u, us, rfl, hT, hdu, _, _⟩ := rtAt hdx
    have tk := take_rt hr'
    have nl := nk.len.2
    have tl : ((rs.take i).flatMap linesR).length + (linesR r).length ≤ 69 := by
      have h1 : rs.flatMap linesR = (rs.take (i + 1)).flatMap linesR ++ (rs.drop (i + 1)).flatMap linesR := by rw [← List.flatMap_append, List.take_append_drop]
      have h2 := congrArg List.length h1
      rw [tk, List.length_append, List.length_append] at h2
      omega
    have el : linesR r = headRt r.1 :: (ind (linesL r.2) ++ [("}" : Str)]) := rfl
    have ll : (linesR r).length = (linesL r.2).length + 2 := by
      rw [el, List.length_cons, List.length_append, ind_len]
      rfl
    obtain ⟨fa, fa2⟩ := few_lines (by decide) ok1 (by omega)
    refine ⟨p0, _, rfl, Same.sqt s1 hT, rfl, _, _, rfl, _, _, rfl, rfl, ?_⟩
    have eh : Str.empty ++ "routine " ++ r.1 ++ " " ++ ("{" : Str) = headRt r.1 := by
      have e3 : (" {" : Str) = " " ++ "{" := by decide +kernel
      unfold headRt
      rw [empty_app, app_assoc ("routine " ++ r.1), e3]
    refine ⟨_, rfl, ty o1, "routine ", rfl, sz (by rw [len_app]; omega), _, rfl, .inl ⟨r.1, rfl, sz (by omega), r.1, rfl, sz (by rw [len_app, len_app]; omega), " ", rfl, sz (by rw [len_app, len_app, len_app]; omega), _, _, rfl, rfl, sizes (by rw [len_app, len_app, len_app]; omega), ?_⟩⟩
    refine ⟨o, _, _, rfl, rfl, o1, sizes1 (by rw [List.length_map]; omega), ?_⟩
    rw [eh]
    have s2 := keep (zs := ((rs.take i).flatMap linesR).map V.str ++ [.str (headRt r.1)]) s1
    have o2 : (upd H1 o (.lst (((rs.take i).flatMap linesR).map V.str ++ [.str (headRt r.1)]))) o = some (.lst (((rs.take i).flatMap linesR ++ [headRt r.1]).map V.str)) := by
      rw [upd_same, strs_app]
      rfl
    refine ⟨_, rfl, ty o2, _, rfl, u, 1, r.2, rfl, by decide, by decide, ok1, by omega, Dp.up s2 _ _ hdu, fun p1 H3 s3 n3 h3 => ?_⟩
    refine ⟨p1, linesL r.2, rfl, SqL.of h3, by omega, fun x hx => by have := fa2 x hx; omega, fun p2 H4 s4 n4 h4 => ?_⟩
    have o4 := s4 _ _ (s3 _ _ o2)
    have s24 := Same.trans s2 (Same.trans s3 s4)
    refine ⟨o, p2, _, _, rfl, rfl, o4, h4, sizes (by rw [List.length_map, List.length_map, List.length_append, ind_len]; show _ + 1 + _ ≤ _; omega), ?_⟩
    have s5 := keep (zs := ((rs.take i).flatMap linesR ++ [headRt r.1]).map V.str ++ (ind (linesL r.2)).map V.str) s24
    have o5 : (upd H4 o (.lst (((rs.take i).flatMap linesR ++ [headRt r.1]).map V.str ++ (ind (linesL r.2)).map V.str))) o = some (.lst (((rs.take i).flatMap linesR ++ [headRt r.1] ++ ind (linesL r.2)).map V.str)) := by
      rw [upd_same, ← strs_app]
    refine ⟨_, rfl, ty o5, o, _, _, rfl, rfl, o5, sizes1 (by rw [List.length_map]; simp only [List.length_append, List.length_singleton, ind_len]; omega), ?_⟩
    show Pv (i + 1) _ _
    rw [ePv]
    refine ⟨_, _, _, rfl, keep s5, ?_⟩
    rw [upd_same, tk, el]
    simp only [strs_app, List.map_cons, List.map_nil, List.append_assoc, List.cons_append, List.nil_append]
  · rw [ePv] at hq
    obtain ⟨y2, y3, y4, rfl, s1, o1⟩ := hq
    rw [List.take_of_length_le (by omega)] at o1
    obtain ⟨ba0, bs, eb, hbS, hbA⟩ := dp_list S.db
    cases eb
    refine ⟨_, rfl, ty o1, _, rfl, p, CP, dx, _, _, rfl, s1 _ _ hp, R.cls, R.nb, rfl, ba, 2, l, rfl, by decide, by decide, pt.okB, pt.fewB, Dp.up s1 _ _ S.db, fun p1 H3 s3 n3 h3 => ?_⟩
    refine ⟨o, p1, _, _, rfl, rfl, s3 _ _ o1, h3, sizes (by rw [List.length_map, List.length_map]; omega), ?_⟩
    have s4 := keep (zs := (rs.flatMap linesR).map V.str ++ (linesL l).map V.str) (Same.trans s1 s3)
    have o4 : (upd H3 o (.lst ((rs.flatMap linesR).map V.str ++ (linesL l).map V.str))) o = some (.lst ((linesP rs l).map V.str)) := by
      rw [upd_same, ← strs_app]
      rfl
    generalize upd H3 o (.lst ((rs.flatMap linesR).map V.str ++ (linesL l).map V.str)) = H4 at s4 o4
    have el : rs.flatMap linesR ++ linesL l = linesP rs l := rfl
    have nP : (linesP rs l).length ≤ 300 := by
      rw [← el, List.length_append]
      omega
    have xP : ∀ x ∈ linesP rs l, x.length ≤ 34 := fun x hx => by
      rw [← el] at hx
      rcases List.mem_append.mp hx with hx | hx
      · exact xR x hx
      · exact xB x hx
    refine ⟨⟨_, rfl⟩, _, rfl, o, rfl, ⟨_, SqL.of o4⟩, fun D hD => ?_⟩
    have dO : o ≠ D := ne_of_none o4 hD
    refine lc_list (K := K) (a := o) (xs := (linesP rs l).map V.str) (fun i H5 => (∀ x, x ≠ D → H5 x = H4 x) ∧ H5 D = some (.lst (((linesP rs l).take i).map fun x => V.str (endl x)))) ⟨fun x hx => upd_ne hx, by rw [upd_same] <;> rfl⟩ (fun i H5 _ hp => SqL.of (by rw [hp.1 o dO]; exact o4)) (fun i x H5 hx hp => ?_) (fun H5 hp => ?_)
    · rw [List.getElem?_map] at hx
      obtain ⟨y, hy, rfl⟩ := Option.map_eq_some_iff.mp hx
      have il : i < (linesP rs l).length := (List.getElem?_eq_some_iff.mp hy).1
      have yl := xP y (List.mem_of_getElem? hy)
      refine ⟨rfl, ?_⟩
      refine ⟨_, rfl, _, _, rfl, rfl, sizes (by rw [ln_nl]; omega), _, hp.2, sizes1 (by rw [List.length_map, List.length_take]; omega), fun z hz => ?_, ?_⟩
      · rw [upd_ne hz]
        exact hp.1 z hz
      · rw [upd_same, List.take_add_one, hy, List.map_append]
        rfl
    · rw [List.length_map, List.take_length] at hp
      refine ⟨"", D, (linesP rs l).map endl, rfl, rfl, .inl (SqL.of (by rw [hp.2, List.map_map] <;> rfl)), join_room nP xP, q H5 fun x u e => ?_⟩
      have nx : x ≠ D := fun z => by
        have := s4 x u e
        rw [z, hD] at this
        cases this
      rw [hp.1 x nx]
      exact s4 x u e
end
end K53

/-! KW0 -/
/-! a law's def, called by nobody's frame: its guards are known, so repr may be asked -/
namespace K53
open PySem PySem.Spec PyProof.Rows L2
/-- the def's call from the outside, by its body -/
theorem run_top {P : Program} {w : World} {K : PySem.W.Frag} {mg : Str → Option Value} {base : Heap} {k : Nat} {f : Addr} {fd : FuncData} {name qual : Str} {params : Arguments} {body : List Stmt} {scope : Scope} {N ps : List Str} {s : Shared} {H : Hp} {us : List Value} {vs : List V} {Q : VK} {E : XK}
    (F : FunD K name qual params body scope [] [] f fd) (S : FnScope N ps scope) (hr : Room (k + 1) callerA) (env : Env0 P w K mg base callerA [] s H) (bnd : BindsTo s fd ⟨us, []⟩ (ps.zip us)) (lv : vs.length = ps.length) (rel : Vals vs us)
    (todo : ∀ cdv : Value, ∃ t, PSs (cxOf CX0 P w K mg base N qual scope f cdv callerA [] s H E) body t ∧ t { nx := fun _ H' => Q .non H', rt := Q } (L2.start N vs) H) :
    codeAny (model P w) callerA (.call (.ref f) ⟨us, []⟩) (CR CX0 [] P w H s Q E) s := by
  obtain ⟨_, _, _, _, _, _, _, cdv, _, _, rfl, look, code, _⟩ := F.ex
  have kin : K.In s.heap := env.mod.kin.keeps fun b o q => (env.bs b o q).1
  refine codeAny_call_function hr.depth (kin _ _ look) rfl S.co S.gen rfl (PySem.W.codeRec_of kin code) (bnd _ _ _ _ ?_)
  refine wpAny_newFunctionEnv_cells S.kind (fun y hy => ?_) fun ev he s1 inc => ?_
  · rcases S.par y.1 (List.of_mem_zip (show (y.1, y.2) ∈ ps.zip us from hy)).1 with z | z
    · exact Or.inl z
    · exact Or.inr ⟨z, PySem.W.cellsFrom_some _ _ _ (Or.inl z)⟩
  subst he
  refine ⟨(env.mod.nolimit.keeps fun b o q => (env.bs b o q).1).keeps inc.toInCall.keep, codeAny_func ?_⟩
  obtain ⟨t, ht, hq⟩ := todo cdv
  refine wpAny_mono (ht.run [] s1 _ H _ (inv_start S hr.hd env lv rel inc) hq) (fun fl s' end_ => ?_) fun _ _ z => z
  cases fl with
  | brk => exact end_.elim fun _ z => z.elim fun _ z => z.2.elim
  | cont => exact end_.elim fun _ z => z.elim fun _ z => z.2.elim
  | next =>
    obtain ⟨_, H2, J, q⟩ := end_
    exact ⟨V.non, H2, J.os, J.bare, J.base, J.hok, rfl, q⟩
  | ret u =>
    obtain ⟨v, _, H2, J, rv, q⟩ := end_
    exact ⟨v, H2, J.os, J.bare, J.base, J.hok, rv, q⟩
/-- the heap behind the top, the script's list alone tracked (or none, if the text itself holds it) -/
theorem root_env {P : Program} {w : World} {K : PySem.W.Frag} {mg mb : Str → Option Value} {a : Addr} {s : Shared} {vs : List Value} {ns : List Int}
    (kin : K.In s.heap) (gn : s.heap.Ns mainGlobals mg) (bn : s.heap.Ns builtinsNs mb) (bb : ∀ x : Str, x ≠ "__name__" → mb x = bootBuiltins x) (nl : s.heap.NoLimit) (ng : s.gens = #[])
    (at_ : s.heap.get? a = some { cls := .type "list", data := .seq vs.toArray }) (ia : IntsAre vs ns) (small : ns.length ≤ sizeLine) :
    ∃ (base : Heap) (H : Hp), K.In base ∧ base.Ns mainGlobals mg ∧ Env0 P w K mg base callerA [] s H ∧ SqL K H a (ns.map V.int) ∧
      ∀ (H2 : Hp) (h2 : Heap), Un (frs []) [] H H2 s.heap h2 → HOk P w H2 h2 → OldK s.heap h2 := by
  have rel := vals_ints ia
  have el := ia.length
  obtain ⟨H, seq, only⟩ : ∃ H : Hp, SqL K H a (ns.map V.int) ∧ ∀ b u, H b = some u → b = a ∧ u = .frz { cls := .type "list", data := .seq vs.toArray } (.lst (ns.map V.int)) ∧ K.lookup a = none := by
    cases q : K.lookup a with
    | none =>
      refine ⟨fun b => if b = a then some (.frz { cls := .type "list", data := .seq vs.toArray } (.lst (ns.map V.int))) else none, .inl (.inr ⟨_, if_pos rfl⟩), fun b u z => ?_⟩
      by_cases e : b = a
      · exact ⟨e, (Option.some.inj ((if_pos e).symm.trans z)).symm, rfl⟩
      · exact nomatch (if_neg e).symm.trans z
    | some o =>
      have z := (kin a o q).symm.trans at_
      cases z
      exact ⟨fun _ => none, .inr ⟨_, vs.toArray, _, q, rfl, rfl, rfl, by rw [List.size_toArray, el]; exact small, by simpa using rel⟩, fun _ _ z => nomatch z⟩
  have seen : ∀ {b : Addr} {o : Obj}, s.heap.get? b = some o → (b = a → K.lookup a = none → False) → (hidT s.heap H).get? b = some o := fun {b o} e n => hidT_get e (by
    cases q : H b with
    | none => rfl
    | some u => exact (n (only b u q).1 (only b u q).2.2).elim)
  have nsp : ∀ {b : Addr} {m : Str → Option Value}, s.heap.Ns b m → (hidT s.heap H).Ns b m := fun {b m} ⟨o, es, n, e, d, r⟩ => ⟨o, es, n, seen e (fun z _ => by
    rw [z, at_] at e
    have e2 := Option.some.inj e
    rw [← e2] at d
    exact nomatch (show Data.seq vs.toArray _ = Data.dict es n from d)), d, r⟩
  have kb : K.In (hidT s.heap H) := fun b o e => seen (kin b o e) fun z n => by rw [z, n] at e; cases e
  have ok : HOk P w H s.heap := fun b u e => by
    obtain ⟨rfl, rfl, _⟩ := only b u e
    exact ⟨at_, by rw [List.length_map]; exact small, vs, _, rel, at_⟩
  refine ⟨hidT s.heap H, H, kb, nsp gn, ⟨rfl, ⟨kb, nsp gn, ⟨mb, nsp bn, bb⟩, nl.elim fun mc z => ⟨mc, nsp z.1, z.2⟩⟩, fun b o e => of_hidT e, Nat.le_of_eq (hidT_size _ _), trivial, (fun b z => nomatch z), ok, .of_eq ng⟩, seq, fun H2 h2 un ok2 => ?_⟩
  refine OldK.of_keep fun b o e => ?_
  cases q : H b with
  | none => exact un.keep b o e q (fun z => nomatch z) (fun z => nomatch z)
  | some u =>
    obtain ⟨rfl, rfl, _⟩ := only b u q
    have z := un.frzs _ _ _ q
    obtain ⟨z1, _⟩ := ok2 _ _ z
    rw [at_] at e
    cases e
    exact z1
end K53

/-! KW1 -/
/-! the law's own body -/
namespace K53
open PySem PySem.Spec PyProof.Rows L2
/-- list + list, wherever the lists stand -/
def rCatL (K : PySem.W.Frag) : R2 := fun x y H Q => ∃ l b xs zs, x = .ref l ∧ y = .ref b ∧ SqL K H l xs ∧ SqL K H b zs ∧ xs.length + zs.length ≤ sizeLine ∧ ∀ p, H p = none → Q (.ref p) (upd H p (.lst (xs ++ zs)))
theorem op_catL {X : Cx} : OpR X (binaryOp .Add) (rCatL X.K) := by
  intro pins s σ H x y v u Q I rx ry h
  obtain ⟨l, b, xs, zs, rfl, rfl, hl, hb, hz, q⟩ := h
  cases rx
  cases ry
  obtain ⟨i1, r1, ⟨⟨c1, d1, t1, sl1⟩, n1, g1, e1, f1, a1⟩, _⟩ := I.list hl
  obtain ⟨i2, r2, ⟨⟨c2, d2, t2, sl2⟩, n2, g2, e2, f2, a2⟩, _⟩ := I.list hb
  simp only at e1 f1 a1 e2 f2 a2
  subst e1 f1 a1 e2 f2 a2
  have z1 := r1.length
  have z2 := r2.length
  have ea : i1.toArray ++ i2.toArray = (i1 ++ i2).toArray := by simp
  refine concat_meets ⟨_, g1, rfl⟩ ⟨_, g2, rfl⟩ noFill_list_add seq_list_add F.slot_list_add F.entry_list_add (F.args_list_add_2 _ _) (list_addW l b i1.toArray i2.toArray n1 n2 none none sl1 sl2 (by rw [List.size_toArray, List.size_toArray]; omega)) ⟨g1, g2, ?_⟩
  rw [ea]
  exact ⟨.ref _, _, I.lnew (t' := s.toks) (r1.append r2) (by rw [List.length_append]; exact hz), rfl, q _ I.fresh⟩
theorem ty_list {K : PySem.W.Frag} {H : Hp} {a : Addr} {xs : List V} (h : SqL K H a xs) : TyX K H (.ref a) (.type "list") := by
  rcases h with (h | ⟨o, h⟩) | ⟨o, its, n, h, hc, _⟩
  · exact .base (.lst h)
  · exact .base (.frz h)
  · exact .kList h hc
theorem eqv_len : ∀ {xs ys : List PyData}, PyData.eqvAll xs ys = true → xs.length = ys.length
  | [], [], _ => rfl
  | [], _ :: _, h => by rw [PyData.eqvAll] at h; cases h
  | _ :: _, [], h => by rw [PyData.eqvAll] at h; cases h
  | x :: xs, y :: ys, h => by
    rw [PyData.eqvAll, Bool.and_eq_true] at h
    rw [List.length_cons, List.length_cons, eqv_len h.2]
theorem eqv_more {xs ys : List PyData} (h : xs.length ≠ ys.length) : PyData.eqv (.list xs) (.list ys) = false := by
  rw [PyData.eqv]
  cases e : PyData.eqvAll xs ys with
  | false => rfl
  | true => exact absurd (eqv_len e) h
/-! ### the data of the program -/
theorem nice_rs {rs : List (Str × List S)} (r4 : rs.length ≤ 4) (h : ∀ r ∈ rs, (cs r.1).all (· < 128) = true ∧ r.1.length ≤ 20 ∧ r.2.length ≤ 6 ∧ OkL 1 r.2) : Nice 6 40000 (rsD rs) := by
  refine (nice_list (m := 5) (n := 8000) fun d hd => ?_).up (Nat.le_refl _) (by rw [List.length_map]; omega)
  obtain ⟨r, hr, rfl⟩ := List.mem_map.mp hd
  obtain ⟨h1, h2, h3, h4⟩ := h r hr
  exact nice_R h1 h2 h3 h4
theorem nice_bl {l : List S} (h : OkL 2 l) (l7 : l.length ≤ 7) : Nice 6 40000 (blD l) := (nice_L h l7).up (by decide) (by decide)
theorem nice_two {rs : List (Str × List S)} {l : List S} (h1 : Nice 6 40000 (rsD rs)) (h2 : Nice 6 40000 (blD l)) : Nice 7 80002 (.tuple [rsD rs, blD l]) := by
  refine (nice_tup (m := 6) (n := 40000) fun d hd => ?_).up (Nat.le_refl _) (by simp)
  simp only [List.mem_cons, List.not_mem_nil, or_false] at hd
  rcases hd with rfl | rfl
  · exact h1
  · exact h2
/-- what the law's body calls -/
structure Lw (P : Program) (w : World) (K : PySem.W.Frag) (mg : Str → Option Value) (base : Heap) (C : Addr) : Prop where
  pg : PgC K mg C
  digits : Cal P w K mg base "_law_digits" ["_law_script", "_law_first", "_law_count"] 2 (spDigits K)
  small : Cal P w K mg base "_law_small" ["_law_digits_here"] 7 (spSmall K)
  written : Cal P w K mg base "_law_written" ["_law_routines_here", "_law_body"] 4 (spWritten K)
  make : ∃ f fd, Mk K C f ∧ FnOk P w K mg base CX0 4 f fd ["self", "routines", "body"] (spPInit K C) ∧ Binds K fd ["self", "routines", "body"] []
  read : Cal P w K mg base "read_program" ["text"] 14 (spReadP K C)
  write : Cal P w K mg base "write_program" ["program"] 9 (spWriteP K C)
  routine : CalM P w K mg base C "routine" ["self", "name"] 4 (spRoutine K C)
  eq : ∃ f fd, FnOk P w K mg base CX0 1 f fd ["self", "other"] (spPEq K C) ∧ PySem.W.findIn K (.ref C) "__eq__" = some (some (.ref f)) ∧ PySem.W.isFn K (.ref f) = true ∧ Binds K fd ["self", "other"] []
section
variable {P : Program} {w : World} {K : PySem.W.Frag} {mg : Str → Option Value} {base : Heap} {C : Addr}
abbrev lawN : List Str := ["_law_script", "_law_digits_here", "_law_routines_here", "_law_body", "_law_text", "_law_kept", "_law_program", "_law_actual", "_law_other", "_law_name_here", "_law_statements_here"]
theorem law_body (B : Bi mg) (W : Lw P w K mg base C) {f : Addr} {s : Shared} {H : Hp} {a : Addr} {ns : List Int} {Q : VK} {E : XK} (hr0 : Room 15 callerA) (hS : SqL K H a (ns.map V.int)) (hq : ∀ H', Q (.bl true) H') (cdv : Value) :
    ∃ t, PSs (cxOf CX0 P w K mg base lawN d_law.qual d_law.scope f cdv callerA [] s H E) d_law.body t ∧ t { nx := fun _ H' => Q .non H', rt := Q } (L2.start lawN [.ref a]) H := by
  have hr : Room 14 (callerA.deeper (envOfC d_law.qual d_law.scope s.heap.objs.size f cdv)) := hr0.deeper _
  have hg : (callerA.deeper (envOfC d_law.qual d_law.scope s.heap.objs.size f cdv)).guards = some [] := rfl
  have hu : (callerA.deeper (envOfC d_law.qual d_law.scope s.heap.objs.size f cdv)).units + 66 < cLine := by have := hr.un; omega
  have hu2 : (callerA.deeper (envOfC d_law.qual d_law.scope s.heap.objs.size f cdv)).units + 64 < cLine := by omega
  obtain ⟨f1, fd1, G1, m1, k1, b1⟩ := W.digits.mono (show 2 ≤ 14 by decide)
  obtain ⟨f2, fd2, G2, m2, k2, b2⟩ := W.small.mono (show 7 ≤ 14 by decide)
  obtain ⟨f3, fd3, G3, m3, k3, b3⟩ := W.written.mono (show 4 ≤ 14 by decide)
  obtain ⟨f4, fd4, M4, G4, b4⟩ := W.make
  obtain ⟨f5, fd5, G5, m5, k5, b5⟩ := W.read
  obtain ⟨f6, fd6, G6, m6, k6, b6⟩ := W.write.mono (show 9 ≤ 14 by decide)
  obtain ⟨f7, fd7, G7, m7, b7⟩ := W.routine.mono (show 4 ≤ 14 by decide)
  obtain ⟨f8, fd8, G8, e8, i8, b8⟩ := W.eq
  have R := W.pg
  have hr5 : Room (4 + 1) (callerA.deeper (envOfC d_law.qual d_law.scope s.heap.objs.size f cdv)) := hr.mono (by decide)
  have hr1 : Room 1 (callerA.deeper (envOfC d_law.qual d_law.scope s.heap.objs.size f cdv)) := hr.mono (by decide)
  have nd := sc_law.nd
  refine ⟨_, PSs.nox (pss_cons (ps_set (i := 1) nd rfl (.inl rfl) (pe_call G1 hr (by rfl) m1 k1 b1 .nil pass0 (pa_cons (pv 0) (pa_cons pe_int (pa_cons pe_int pa_nil)))))
    (pss_cons (ps_asg (pe_call G2 hr (by rfl) m2 k2 b2 .nil pass0 (pa_cons (pv 1) pa_nil)) (pg_tup (by rfl) (pgs_cons (pg_name (i := 2) nd rfl (.inl rfl)) (pgs_cons (pg_name (i := 3) nd rfl (.inl rfl)) pgs_nil))))
    (pss_cons (ps_set (i := 4) nd rfl (.inl rfl) (pe_call G3 hr (by rfl) m3 k3 b3 .nil pass0 (pa_cons (pv 2) (pa_cons (pv 3) pa_nil))))
    (pss_cons (ps_set (i := 5) nd rfl (.inl rfl) (pe_callB (call_reprD hg hu) (by rfl) B.repr bt_repr (pa_cons (pe_tup (pa_cons (pv 2) (pa_cons (pv 3) pa_nil))) pa_nil)))
    (pss_cons (ps_set (i := 6) nd rfl (.inl rfl) (pe_make M4 G4 hr5 (by rfl) R.gl b4 .nil pass0 (pa_cons (pv 2) (pa_cons (pv 3) pa_nil))))
    (pss_cons (ps_set (i := 7) nd rfl (.inl rfl) (pe_call G5 hr (by rfl) m5 k5 b5 .nil pass0 (pa_cons (pv 4) pa_nil)))
    (pss_cons (ps_if (PW.pt (pw_or (pt_cmpR (op_neD hu2) (pe_fld (pv 7) (by rfl)) (pv 2) (nomark _)) (pw_or (pt_cmpR (op_neD hu2) (pe_fld (pv 7) (by rfl)) (pv 3) (nomark _)) (pw_or1 (pt_not (pt_val (pe_callB call_isi (by rfl) B.isi bt_isi (pa_cons (pe_fld (pv 7) (by rfl)) (pa_cons (pe_bltn (v := .ty "list") (by rfl) B.list bt_list rfl) pa_nil)))))))))
      (pss_one (ps_ret pe_bl)) pss_nil)
    (pss_cons (ps_if (PW.pt (pw_or (pt_not (pt_cmpR (op_ownEq G8 hr1 e8 i8 b8 pass0 R.nf) (pv 7) (pv 6) (nomark _))) (pw_or (pt_cmpR (op_ownEq G8 hr1 e8 i8 b8 pass0 R.nf) (pv 7) (pv 4) (nomark _)) (pw_or1 (pt_cmpR op_ne (pe_call G6 hr (by rfl) m6 k6 b6 .nil pass0 (pa_cons (pv 7) pa_nil)) (pv 4) (nomark _))))))
      (pss_one (ps_ret pe_bl)) pss_nil)
    (pss_cons (ps_set (i := 8) nd rfl (.inl rfl) (pe_make M4 G4 hr5 (by rfl) R.gl b4 .nil pass0 (pa_cons (pv 2) (pa_cons (pe_op op_catL (pv 3) (pe_lst (pa_cons (pe_tup (pa_cons pe_str pa_nil)) pa_nil))) pa_nil))))
    (pss_mid (ps_if (PW.pt (pw_and (pt_cmpR op_eq (pe_op op_mod (pe_callB call_len_str (by rfl) B.len PySem.boot_len (pa_cons (pv 4) pa_nil)) pe_int) pe_int (nomark _)) (pw_and1 (pt_cmpR op_lt (pe_callB call_len_seq (by rfl) B.len PySem.boot_len (pa_cons (pv 2) pa_nil)) pe_int (nomark _)))))
      (pss_one (ps_set (i := 8) nd rfl (.inl rfl) (pe_make M4 G4 hr5 (by rfl) R.gl b4 .nil pass0 (pa_cons (pe_op op_catL (pv 2) (pe_lst (pa_cons (pe_tup (pa_cons pe_str (pa_cons (pe_lst pa_nil) pa_nil))) pa_nil))) (pa_cons (pv 3) pa_nil))))) pss_nil)
    (pss_cons (ps_if (PW.pt (pw_or (pt_cmpR (op_ownEq G8 hr1 e8 i8 b8 pass0 R.nf) (pv 7) (pv 8) (nomark _)) (pw_or1 (pt_cmpR op_ne (pe_callB (call_reprD hg hu) (by rfl) B.repr bt_repr (pa_cons (pe_tup (pa_cons (pv 2) (pa_cons (pv 3) pa_nil))) pa_nil)) (pv 5) (nomark _)))))
      (pss_one (ps_ret pe_bl)) pss_nil)
    (pss_cons (ps_for PassesOwn.never rfl (pi_list (pv 2)) (pg_tup (by rfl) (pgs_cons (pg_name (i := 9) nd rfl (.inl rfl)) (pgs_cons (pg_name (i := 10) nd rfl (.inl rfl)) pgs_nil)))
      (pss_one (ps_if (pt_cmpR (op_neD hu2) (pe_meth (pv 7) R.cls m7 G7 hr b7 .nil pass0 (pa_cons (pv 9) pa_nil)) (pv 10) (nomark _)) (pss_one (ps_ret pe_bl)) pss_nil)))
    (pss_one (ps_ret (pe_cmpR op_isN (pe_meth (pv 7) R.cls m7 G7 hr b7 .nil pass0 (pa_cons pe_str pa_nil)) pe_non (nomark _)))))))))))))))), ?_⟩
  have few : ∀ {n : Nat}, n ≤ 4 → n ≤ sizeLine := fun h => sizes (by omega)
  -- the digits
  refine ⟨_, rfl, a, ns, rfl, hS, fun n d nd0 => ?_⟩
  refine ⟨_, rfl, d, n, rfl, upd_same, fun p ra ba rs l H2 g _ hp dr db => ?_⟩
  refine ⟨p, _, rfl, SqT.of hp, rfl, _, _, rfl, _, _, rfl, rfl, ?_⟩
  -- what the data are
  have low : ∀ r ∈ rs, (cs r.1).all (· < 128) = true ∧ r.1.length ≤ 20 ∧ r.2.length ≤ 6 ∧ OkL 1 r.2 := fun r m => ⟨name_low (g.names r m).1, (g.names r m).1.len.2, (g.pt.ok r m).1, (g.pt.ok r m).2⟩
  have n1 : Nice 6 40000 (rsD rs) := nice_rs (by have := g.few; omega) low
  have n2 : Nice 6 40000 (blD l) := nice_bl g.okB (by have := g.fewB; omega)
  have n3 := nice_two n1 n2
  have sh1 := n1.shaped (by decide)
  have sh2 := n2.shaped (by decide)
  have q1 : PyData.eqv (rsD rs) (rsD rs) = true := PySem.SeqAt.eqv_refl _ n1.lay
  have q2 : PyData.eqv (blD l) (blD l) = true := PySem.SeqAt.eqv_refl _ n2.lay
  have tl := text_len g.parts
  -- the text
  refine ⟨_, rfl, _, rfl, ra, ba, rs, l, rfl, dr, db, g.parts, fun H3 s3 => ?_⟩
  have dr3 := Dp.up s3 _ _ dr
  have db3 := Dp.up s3 _ _ db
  -- kept
  refine ⟨_, rfl, _, rfl, few (by show 2 ≤ 4; decide), fun p4 np4 => ?_⟩
  have s4 : Same H3 (upd H3 p4 (.tup [.ref ra, .ref ba])) := same_new np4
  have dr4 := Dp.up s4 _ _ dr3
  have db4 := Dp.up s4 _ _ db3
  have dt4 : Dp K (upd H3 p4 (.tup [.ref ra, .ref ba])) (.ref p4) (.tuple [rsD rs, blD l]) := .tup (SqT.of upd_same) (.cons dr4 (.cons db4 .nil))
  generalize upd H3 p4 (.tup [.ref ra, .ref ba]) = H4 at s4 dr4 db4 dt4
  refine ⟨p4, _, rfl, dt4, n3.shaped (by decide), n3.sho, n3.room (by decide) (by decide), ?_⟩
  -- the program of the parts
  have made : ∀ {G : Hp} {p dx : Addr}, G p = none → G dx = none → Same G (upd (upd G dx (.own p)) p (.ins C dx [])) := fun h1 h2 b u e => by
    rw [upd_ne (ne_of_none e h1), upd_ne (ne_of_none e h2)]
    exact e
  refine ⟨_, rfl, _, rfl, fun p1 dx1 np1 nd1 _ => ⟨p1, ra, ba, dx1, rs, l, rfl, upd_same, Dp.up (made np1 nd1) _ _ dr4, Dp.up (made np1 nd1) _ _ db4, g.pt, fun ra1 ba1 H5 kp5 pg5 => ⟨rfl, ?_⟩⟩⟩
  have s5 : Same H4 H5 := fun b u e => kp5 b u (made np1 nd1 b u e) (ne_of_none e np1)
  -- the program that is read
  refine ⟨_, rfl, rs, l, rfl, g, fun p2 ra2 ba2 H6 s6 pg6 => ?_⟩
  have s46 := Same.trans s5 s6
  have dr6 := Dp.up s46 _ _ dr4
  have db6 := Dp.up s46 _ _ db4
  have pg1 := pg5.up s6
  obtain ⟨dx2, hp2⟩ := pg6.pg
  obtain ⟨dy1, hp1⟩ := pg1.pg
  obtain ⟨ba9, bx2, eb2, hbS2, _⟩ := dp_list pg6.db
  cases eb2
  -- its parts
  refine ⟨_, rfl, p2, C, dx2, _, _, rfl, hp2, R.cls, R.nr, rfl, _, rfl, rsD rs, rsD rs, pg6.dr, dr6, sh1, sh1, _, rfl, ?_⟩
  rw [q1]
  refine iteF ⟨_, rfl, p2, C, dx2, _, _, rfl, hp2, R.cls, R.nb, rfl, _, rfl, blD l, blD l, pg6.db, db6, sh2, sh2, _, rfl, ?_⟩
  rw [q2]
  refine iteF ⟨_, rfl, p2, C, dx2, _, _, rfl, hp2, R.cls, R.nb, rfl, .ref ba2, .ty "list", .type "list", .type "list", true, rfl, .ty "list", ty_list hbS2, kit_ty (by decide +kernel), _, rfl, iteF ?_⟩
  -- == and write
  refine ⟨_, rfl, _, rfl, p2, dx2, _, rfl, hp2, .inr ⟨p1, dy1, _, rfl, hp1⟩, p2, ra2, ba2, rs, l, .ref p1, rfl, pg6, sh1, sh2, .inr ⟨p1, ra1, ba1, rs, l, rfl, pg1, sh1, sh2, _, rfl, ?_⟩⟩
  rw [q1, q2]
  refine iteF ⟨_, rfl, _, rfl, p2, dx2, _, rfl, hp2, .inl ⟨_, rfl⟩, p2, ra2, ba2, rs, l, _, rfl, pg6, sh1, sh2, .inl ⟨_, rfl, _, rfl, iteF ?_⟩⟩
  refine ⟨_, rfl, p2, ra2, ba2, rs, l, rfl, pg6, g.parts, fun H7 s7 => ⟨_, rfl, rfl, _, rfl, ?_⟩⟩
  rw [decide_eq_true (rfl : V.str (textP rs l) = V.str (textP rs l))]
  refine iteF ?_
  have dr7 := Dp.up s7 _ _ dr6
  have db7 := Dp.up s7 _ _ db6
  have pg7 := pg6.up s7
  obtain ⟨bb0, bs, ebb, hbS7, hbA7⟩ := dp_list db7
  cases ebb
  obtain ⟨rr0, rvs, err, hrS7, hrA7⟩ := dp_list dr7
  cases err
  have bl : bs.length = l.length := by rw [all_len hbA7, dataL_map, List.length_map]
  have rl : rvs.length = rs.length := by rw [all_len hrA7, List.length_map]
  have l6 := g.fewB
  have r3 := g.few
  -- another program
  refine ⟨_, rfl, _, rfl, few (by show 1 ≤ 4; decide), fun t1 nt1 => ⟨few (by show 1 ≤ 4; decide), fun t2 nt2 => ?_⟩⟩
  have st : Same H7 (upd (upd H7 t1 (.tup [.str "release"])) t2 (.lst [.ref t1])) := Same.trans (same_new nt1) (same_new nt2)
  have ht1 : (upd (upd H7 t1 (.tup [.str "release"])) t2 (.lst [.ref t1])) t1 = some (.tup [.str "release"]) := same_new nt2 _ _ upd_same
  have ht2 : (upd (upd H7 t1 (.tup [.str "release"])) t2 (.lst [.ref t1])) t2 = some (.lst [.ref t1]) := upd_same
  generalize upd (upd H7 t1 (.tup [.str "release"])) t2 (.lst [.ref t1]) = G1 at st ht1 ht2
  refine ⟨ba, t2, bs, [.ref t1], rfl, rfl, Same.seq st hbS7, SqL.of ht2, sizes (by show _ + 1 ≤ _; omega), fun t3 nt3 => ?_⟩
  have st2 : Same H7 (upd G1 t3 (.lst (bs ++ [.ref t1]))) := Same.trans st (same_new nt3)
  have db8 : Dp K (upd G1 t3 (.lst (bs ++ [.ref t1]))) (.ref t3) (blD (l ++ [.pl .release])) := by
    show Dp K _ _ (.list (dataL (l ++ [.pl .release])))
    rw [dataL_app, dataL_cons, dataL_nil, data_pl]
    exact .lst (SqL.of upd_same) (all_app (DpAll.up st2 _ _ hbA7) (.cons (.tup (SqT.of (same_new nt3 _ _ ht1)) (.cons (.str _) .nil)) .nil))
  have ok8 : OkL 2 (l ++ [.pl .release]) := fun x m => by
    rcases List.mem_append.mp m with m | m
    · exact g.okB x m
    · rw [List.mem_singleton.mp m]
      exact trivial
  have l8 : (l ++ [S.pl .release]).length ≤ 7 := by rw [List.length_append]; show _ + 1 ≤ _; omega
  generalize upd G1 t3 (.lst (bs ++ [.ref t1])) = G2 at st2 db8
  refine fun p3 dx3 np3 nd3 _ => ⟨p3, ra, t3, dx3, rs, l ++ [.pl .release], rfl, upd_same, Dp.up (made np3 nd3) _ _ (Dp.up st2 _ _ dr7), Dp.up (made np3 nd3) _ _ db8, ⟨by omega, g.pt.ok, l8, ok8⟩, fun ra3 ba3 H9 kp9 pg9 => ⟨rfl, ?_⟩⟩
  have s9 : Same H7 H9 := fun b u e => kp9 b u (made np3 nd3 b u (st2 _ _ e)) (ne_of_none (st2 _ _ e) np3)
  have dr9 := Dp.up s9 _ _ dr7
  have db9 := Dp.up s9 _ _ db7
  have n8 : Nice 6 40000 (blD (l ++ [.pl .release])) := nice_bl ok8 l8
  refine ⟨fun σ G => ∃ (p3 ra3 ba3 : Addr) (rs3 : List (Str × List S)) (l3 : List S), σ = [some (.ref a), some (.ref d), some (.ref ra), some (.ref ba), some (.str (textP rs l)), some (.str (PyData.tuple [rsD rs, blD l]).shown), some (.ref p1), some (.ref p2), some (.ref p3), none, none] ∧
    Same H9 G ∧ PgS K G C p3 ra3 ba3 rs3 l3 ∧ SeqAt.shaped (rsD rs3) = true ∧ SeqAt.shaped (blD l3) = true ∧ (PyData.eqv (rsD rs) (rsD rs3) && PyData.eqv (blD l) (blD l3)) = false, ?_, fun σ G hm => ?_⟩
  · have stay : ∃ (pz ra3 ba3 : Addr) (rs3 : List (Str × List S)) (l3 : List S), [some (V.ref a), some (.ref d), some (.ref ra), some (.ref ba), some (.str (textP rs l)), some (.str (PyData.tuple [rsD rs, blD l]).shown), some (.ref p1), some (.ref p2), some (.ref p3), none, none] = [some (.ref a), some (.ref d), some (.ref ra), some (.ref ba), some (.str (textP rs l)), some (.str (PyData.tuple [rsD rs, blD l]).shown), some (.ref p1), some (.ref p2), some (.ref pz), none, none] ∧
        Same H9 H9 ∧ PgS K H9 C pz ra3 ba3 rs3 l3 ∧ SeqAt.shaped (rsD rs3) = true ∧ SeqAt.shaped (blD l3) = true ∧ (PyData.eqv (rsD rs) (rsD rs3) && PyData.eqv (blD l) (blD l3)) = false := by
      refine ⟨p3, ra3, ba3, rs, l ++ [.pl .release], rfl, Same.refl _, pg9, sh1, n8.shaped (by decide), ?_⟩
      rw [q1, show PyData.eqv (blD l) (blD (l ++ [.pl .release])) = false from eqv_more (by rw [dataL_map, dataL_map, List.length_map, List.length_map, List.length_append]; show l.length ≠ l.length + 1; omega)]
      rfl
    refine ⟨_, rfl, _, rfl, sizes (by omega), _, _, rfl, rfl, (show (0 : Int) < 2 by decide), rfl, _, rfl, ite2 (fun _ => ?_) (fun _ => iteF stay)⟩
    refine ⟨_, rfl, ra, _, rfl, .inl (Same.seq s9 hrS7), _, _, rfl, rfl, _, rfl, ite2 (fun _ => ?_) (fun _ => stay)⟩
    refine ⟨_, rfl, Nat.zero_le _, fun t4 nt4 => ⟨few (by show 2 ≤ 4; decide), fun t5 nt5 => ⟨few (by show 1 ≤ 4; decide), fun t6 nt6 => ?_⟩⟩⟩
    have su : Same H9 (upd (upd (upd H9 t4 (.lst [])) t5 (.tup [.str "another_routine", .ref t4])) t6 (.lst [.ref t5])) := Same.trans (same_new nt4) (Same.trans (same_new nt5) (same_new nt6))
    have ht4 : (upd (upd (upd H9 t4 (.lst [])) t5 (.tup [.str "another_routine", .ref t4])) t6 (.lst [.ref t5])) t4 = some (.lst []) := same_new nt6 _ _ (same_new nt5 _ _ upd_same)
    have ht5 : (upd (upd (upd H9 t4 (.lst [])) t5 (.tup [.str "another_routine", .ref t4])) t6 (.lst [.ref t5])) t5 = some (.tup [.str "another_routine", .ref t4]) := same_new nt6 _ _ upd_same
    have ht6 : (upd (upd (upd H9 t4 (.lst [])) t5 (.tup [.str "another_routine", .ref t4])) t6 (.lst [.ref t5])) t6 = some (.lst [.ref t5]) := upd_same
    generalize upd (upd (upd H9 t4 (.lst [])) t5 (.tup [.str "another_routine", .ref t4])) t6 (.lst [.ref t5]) = G3 at su ht4 ht5 ht6
    refine ⟨ra, t6, rvs, [.ref t5], rfl, rfl, Same.seq su (Same.seq s9 hrS7), SqL.of ht6, sizes (by show _ + 1 ≤ _; omega), fun t7 nt7 => ?_⟩
    have su2 : Same H9 (upd G3 t7 (.lst (rvs ++ [.ref t5]))) := Same.trans su (same_new nt7)
    have dr10 : Dp K (upd G3 t7 (.lst (rvs ++ [.ref t5]))) (.ref t7) (rsD (rs ++ [(("another_routine" : Str), ([] : List S))])) := by
      show Dp K _ _ (.list ((rs ++ [(("another_routine" : Str), ([] : List S))]).map dataR))
      rw [List.map_append]
      refine .lst (SqL.of upd_same) (all_app (DpAll.up su2 _ _ (DpAll.up s9 _ _ hrA7)) (.cons (.tup (SqT.of (same_new nt7 _ _ ht5)) (.cons (.str _) (.cons ?_ .nil))) .nil))
      show Dp K _ _ (.list (dataL []))
      rw [dataL_nil]
      exact .lst (SqL.of (same_new nt7 _ _ ht4)) .nil
    generalize upd G3 t7 (.lst (rvs ++ [.ref t5])) = G4 at su2 dr10
    have low2 : ∀ r ∈ rs ++ [(("another_routine" : Str), ([] : List S))], (cs r.1).all (· < 128) = true ∧ r.1.length ≤ 20 ∧ r.2.length ≤ 6 ∧ OkL 1 r.2 := fun r m => by
      rcases List.mem_append.mp m with m | m
      · exact low r m
      · rw [List.mem_singleton.mp m]
        exact ⟨by decide +kernel, by decide +kernel, Nat.zero_le _, OkL.nil⟩
    have lr : (rs ++ [(("another_routine" : Str), ([] : List S))]).length ≤ 4 := by rw [List.length_append]; show _ + 1 ≤ _; omega
    have n10 := nice_rs lr low2
    refine ⟨_, rfl, fun p5 dx5 np5 nd5 _ => ⟨p5, t7, ba, dx5, rs ++ [(("another_routine" : Str), ([] : List S))], l, rfl, upd_same, Dp.up (made np5 nd5) _ _ dr10, Dp.up (made np5 nd5) _ _ (Dp.up su2 _ _ db9), ⟨lr, fun r m => (low2 r m).2.2, by omega, g.okB⟩, fun ra5 ba5 H10 kp10 pg10 => ⟨rfl, ?_⟩⟩⟩
    refine ⟨p5, ra5, ba5, rs ++ [(("another_routine" : Str), ([] : List S))], l, rfl, fun b u e => kp10 b u (made np5 nd5 b u (su2 _ _ e)) (ne_of_none (su2 _ _ e) np5), pg10, n10.shaped (by decide), sh2, ?_⟩
    rw [show PyData.eqv (rsD rs) (rsD (rs ++ [(("another_routine" : Str), ([] : List S))])) = false from eqv_more (by rw [List.length_map, List.length_map, List.length_append]; show rs.length ≠ rs.length + 1; omega)]
    rfl
  · obtain ⟨p3, ra3, ba3, rs3, l3, rfl, s10, pg3, sh3, sh4, ne⟩ := hm
    have s710 := Same.trans s9 s10
    have dr11 := Dp.up s710 _ _ dr7
    have db11 := Dp.up s710 _ _ db7
    have pg11 := pg7.up s710
    obtain ⟨dx9, hp9⟩ := pg11.pg
    obtain ⟨dz3, hp3⟩ := pg3.pg
    refine ⟨_, rfl, _, rfl, p2, dx9, _, rfl, hp9, .inr ⟨p3, dz3, _, rfl, hp3⟩, p2, ra2, ba2, rs, l, .ref p3, rfl, pg11, sh1, sh2, .inr ⟨p3, ra3, ba3, rs3, l3, rfl, pg3, sh3, sh4, _, rfl, ?_⟩⟩
    rw [ne]
    refine iteF ⟨_, rfl, _, rfl, few (by show 2 ≤ 4; decide), fun p6 np6 => ?_⟩
    have s11 : Same G (upd G p6 (.tup [.ref ra, .ref ba])) := same_new np6
    have dr12 := Dp.up s11 _ _ dr11
    have db12 := Dp.up s11 _ _ db11
    have pg12 := pg11.up s11
    have dt12 : Dp K (upd G p6 (.tup [.ref ra, .ref ba])) (.ref p6) (.tuple [rsD rs, blD l]) := .tup (SqT.of upd_same) (.cons dr12 (.cons db12 .nil))
    generalize upd G p6 (.tup [.ref ra, .ref ba]) = H12 at s11 dr12 db12 dt12 pg12
    refine ⟨p6, _, rfl, dt12, n3.shaped (by decide), n3.sho, n3.room (by decide) (by decide), _, rfl, rfl, _, rfl, ?_⟩
    rw [decide_eq_true (rfl : V.str (PyData.tuple [rsD rs, blD l]).shown = V.str (PyData.tuple [rsD rs, blD l]).shown)]
    refine iteF ?_
    -- each routine
    obtain ⟨rz, rws, erz, hrS12, hrA12⟩ := dp_list dr12
    cases erz
    have rl2 : rws.length = rs.length := by rw [all_len hrA12, List.length_map]
    refine ⟨_, rfl, ra, rfl, ⟨_, hrS12⟩, for_list (K := K) (a := ra) (xs := rws) (fun n σ H' => Same H12 H' ∧ ∃ y9 y10, σ = [some (.ref a), some (.ref d), some (.ref ra), some (.ref ba), some (.str (textP rs l)), some (.str (PyData.tuple [rsD rs, blD l]).shown), some (.ref p1), some (.ref p2), some (.ref p3), y9, y10]) ⟨Same.refl _, _, _, rfl⟩ (fun n σ H' _ hq => Same.seq hq.1 hrS12) (fun n v σ H' hx hq => ?_) (fun σ H' hq => ?_)⟩
    · obtain ⟨s13, y9, y10, rfl⟩ := hq
      obtain ⟨dat, hdat, hdx⟩ := all_get hrA12 hx
      obtain ⟨r, hr', rfl, hmem⟩ := rt_get hdat
      obtain ⟨p0, u, us', rfl, hT, du, _⟩ := rtAt hdx
      have pg13 := pg12.up s13
      obtain ⟨dx13, hp13⟩ := pg13.pg
      obtain ⟨_, _, lr6, okr⟩ := low r hmem
      have nr := (nice_L okr lr6).shaped (by decide)
      have qr : PyData.eqv (blD r.2) (blD r.2) = true := PySem.SeqAt.eqv_refl _ (nice_L okr lr6).lay
      refine ⟨p0, _, rfl, Same.sqt s13 hT, rfl, _, _, rfl, _, _, rfl, rfl, ?_⟩
      refine ⟨_, rfl, p2, dx13, _, rfl, hp13, rfl, _, rfl, p2, ra2, ba2, rs, l, r.1, rfl, pg13, g.pt, g.nd, .inl ⟨r.2, hmem, fun o H14 s14 d14 => ⟨_, rfl, blD r.2, blD r.2, d14, Dp.up (Same.trans s13 s14) _ _ du, nr, nr, _, rfl, ?_⟩⟩⟩
      rw [qr]
      exact iteF ⟨Same.trans s13 s14, _, _, rfl⟩
    · obtain ⟨s13, y9, y10, rfl⟩ := hq
      have pg13 := pg12.up s13
      obtain ⟨dx13, hp13⟩ := pg13.pg
      have no : ("no_such_routine" : Str) ∉ rs.map (·.1) := fun hm => by
        obtain ⟨r, m, e⟩ := List.mem_map.mp hm
        have := (g.names r m).2.1
        rw [e] at this
        exact this (by decide +kernel)
      refine ⟨_, rfl, p2, dx13, _, rfl, hp13, rfl, p2, ra2, ba2, rs, l, "no_such_routine", rfl, pg13, g.pt, g.nd, .inr ⟨no, rfl, ?_⟩⟩
      rw [decide_eq_true (rfl : V.non = V.non)]
      exact hq _
end
end K53

/-! KH -/
set_option maxHeartbeats 0
/-! the head: what the top leaves -/
namespace K53
open PySem PySem.Spec PyProof.Rows L2
def glos : List Str := ["copy_statements", "Program", "KEYWORDS", "split_line", "split_words", "is_name", "read_count", "Reader", "read_program", "indent", "write_statement", "write_list", "write_program",
  "_law_number", "_law_digits", "_law_digit", "_law_name", "_law_names", "_law_plain", "_law_statements", "_law_routines", "_law_lines", "_law_written", "_law_small", "law"]
def frees : List Str := ["len", "enumerate", "int", "range", "str", "repr", "isinstance", "list"]
def methsR : List Str := ["is_done", "peek", "take", "take_name", "take_switch", "take_count", "open_brace", "read_block", "read_statement", "read_plain", "read_if", "read_routine", "read_routines"]
def fas : List He.Fa := glos.map .glo ++ frees.map .free ++ [.int "MOST_LETTERS" 20, .int "MOST_ROUTINES" 12, .int "MOST_BRACES" 8, .str "LETTERS" "abcdefghijklmnopqrstuvwxyz", .str "DIGITS" "0123456789",
  .cls "Program", .cls "Reader", .noat "Program" "routines", .noat "Program" "body", .noat "Reader" "words", .noat "Reader" "at", .noat "Reader" "braces", .meth "Program" "routine", .meth "Program" "__eq__", .mkr "Program", .mkr "Reader"] ++ methsR.map (.meth "Reader")
def kwsD : List He.Dv := [.str "move", .str "set", .str "wait", .str "take", .str "release", .str "if", .str "else", .str "repeat", .str "call", .str "routine", .str "on", .str "off"]
def exB (K : PySem.W.Frag) : Bool := He.tupB K "KEYWORDS" kwsD && (He.eqO (PySem.W.findIn K (.ref (He.ga K "Program")) "__class__") (some (some (.builtin "object.__class__"))) &&
  (He.eqO (PySem.W.specialIn K (.builtin "object.__class__") "__get__") (some (some (.builtin "getset_descriptor.__get__"))) && (decide (PySem.W.takesIn K (.builtin "object.__class__") = some true) &&
  (decide (PySem.W.mroIn K (He.ga K "Program") (.type "object") = some true) && (decide (PySem.W.kitOne K (.type "str") (.ref (He.ga K "Program")) = some false) && PySem.W.notFirst K (He.ga K "Program") (.type "str"))))))
/-- hookD with one more Bool -/
def hookM (n : Nat) (fa : List He.Fa) (fn : List He.DefD) (ex : PySem.W.Frag → Bool) : PySem.W.Hook where
  α := He.AlD × Bool
  obs := fun s => (He.obsDG n fa fn s.heap.get?, ex (He.frG s.heap.get? (He.asD s.heap.get? n)))
  val := fun _ => (He.valD fn, true)
  says := fun _ h => ∃ K : PySem.W.Frag, K.In h ∧ He.SaysD fa fn K ∧ ex K = true
  of := fun _ _ e => ⟨_, He.frG_in, (Prod.mk.inj e).1, (Prod.mk.inj e).2⟩
  keeps := fun _ _ _ ⟨K, hK, c, d⟩ k => ⟨K, PySem.W.Frag.In.keeps hK k, c, d⟩
abbrev R : PySem.W.OpenRow := PySem.W.OpenLaw.row PySem.Challenge.rw_armwarrant_k53_whole_programs_read_back
abbrev hk : PySem.W.Hook := hookM 5 fas fns exB
def ob (s : PySem.W.SharedT) : He.AlD × Bool := (He.obsDG 5 fas fns (HandSHeadRun.getT s), exB (He.frG (HandSHeadRun.getT s) (He.asD (HandSHeadRun.getT s) 5)))
theorem ob_eq (s : PySem.W.SharedT) : ob s = hk.obs s.abs := by
  have e : HandSHeadRun.getT s = s.abs.heap.get? := funext fun a => HandSHeadRun.getT_eq s a
  unfold ob
  rw [e] <;> rfl
def loose : List PySem.Str := ["ArmwarrantError", "InvalidProgram", "copy_statements", "Program", "KEYWORDS", "LETTERS", "DIGITS", "MOST_LETTERS", "split_line", "split_words", "is_name", "read_count", "MOST_ROUTINES", "MOST_BRACES", "Reader", "read_program", "indent", "write_statement", "write_list", "write_program",
  "_law_number", "_law_digits", "_law_digit", "_law_name", "_law_names", "_law_plain", "_law_statements", "_law_routines", "_law_lines", "_law_written", "_law_small"]
theorem run (w : World) : HandSHeadRun.RunEq R (PySem.W.view R.prog [37]) hk ob 3000 loose w := by
  intro os
  kernel_rfl
end K53

set_option maxHeartbeats 4000000
/-! KZ -/
/-! the end (its lists of facts printed by wip/gen2.py) -/
namespace K53
open PySem PySem.Spec PyProof.Rows L2
section
variable {P : Program} {w : World} {K : PySem.W.Frag} {h base : Heap} {mg : Str → Option Value}
theorem at_of_def (X : K.In h) (G : h.Ns mainGlobals mg) (c : He.SaysD fas fns K) (i j : Nat) {d : He.DefD} {x : Str} (hd : fns[i]? = some d) (hf : fas[j]? = some (.glo x)) (e1 : d.at_ = (x, none)) (e2 : d.dfl = []) (e3 : d.kwd = []) : ∃ f fd, At K mg d x f fd := by
  obtain ⟨fd, F⟩ := c.def_ i (d := d) hd
  have F2 : FunD K d.name d.qual d.params d.body d.scope [] [] (He.ga K x) fd := by
    have q1 : d.dvs K = [] := by unfold He.DefD.dvs; rw [e2]; rfl
    have q2 : d.kws K = [] := by unfold He.DefD.kws; rw [e3]; rfl
    have q3 : He.fAd K d.at_ = He.ga K x := by rw [e1]; rfl
    rw [q1, q2, q3] at F
    exact F
  exact ⟨_, fd, F2, He.glo_ok X G (c.fact j (f := .glo x) hf)⟩
theorem of_meth (c : He.SaysD fas fns K) (i : Nat) {d : He.DefD} {C m : Str} (hd : fns[i]? = some d) (e1 : d.at_ = (C, some m)) (e2 : d.dfl = []) (e3 : d.kwd = []) : ∃ fd, FunD K d.name d.qual d.params d.body d.scope [] [] (He.ma K (He.ga K C) m) fd := by
  obtain ⟨fd, F⟩ := c.def_ i (d := d) hd
  have q1 : d.dvs K = [] := by unfold He.DefD.dvs; rw [e2]; rfl
  have q2 : d.kws K = [] := by unfold He.DefD.kws; rw [e3]; rfl
  have q3 : He.fAd K d.at_ = He.ma K (He.ga K C) m := by rw [e1]; rfl
  rw [q1, q2, q3] at F
  exact ⟨fd, F⟩
theorem atM_of_def (c : He.SaysD fas fns K) (i j : Nat) {d : He.DefD} {C m : Str} (hd : fns[i]? = some d) (hf : fas[j]? = some (.meth C m)) (e1 : d.at_ = (C, some m)) (e2 : d.dfl = []) (e3 : d.kwd = []) : ∃ f fd, AtM K (He.ga K C) d m f fd := by
  obtain ⟨fd, F⟩ := of_meth c i hd e1 e2 e3
  exact ⟨_, fd, F, He.meth_ok (c.fact j (f := .meth C m) hf)⟩
theorem bi_of (X : K.In h) (G : h.Ns mainGlobals mg) (c : He.SaysD fas fns K) : Bi mg :=
  ⟨He.free_ok X G (c.fact 25 (f := .free "len") rfl), He.free_ok X G (c.fact 26 (f := .free "enumerate") rfl), He.free_ok X G (c.fact 27 (f := .free "int") rfl), He.free_ok X G (c.fact 28 (f := .free "range") rfl), He.free_ok X G (c.fact 29 (f := .free "str") rfl), He.free_ok X G (c.fact 30 (f := .free "repr") rfl), He.free_ok X G (c.fact 31 (f := .free "isinstance") rfl), He.free_ok X G (c.fact 32 (f := .free "list") rfl)⟩
theorem gb_of (X : K.In h) (G : h.Ns mainGlobals mg) (c : He.SaysD fas fns K) (ex : exB K = true) : Gb K mg := by
  obtain ⟨kt, _⟩ := He.ba ex
  obtain ⟨t1, e1⟩ := He.int_ok X G (c.fact 33 (f := .int "MOST_LETTERS" 20) rfl)
  obtain ⟨t2, e2⟩ := He.int_ok X G (c.fact 34 (f := .int "MOST_ROUTINES" 12) rfl)
  obtain ⟨t3, e3⟩ := He.int_ok X G (c.fact 35 (f := .int "MOST_BRACES" 8) rfl)
  obtain ⟨t4, e4⟩ := He.str_ok X G (c.fact 36 (f := .str "LETTERS" "abcdefghijklmnopqrstuvwxyz") rfl)
  obtain ⟨t5, e5⟩ := He.str_ok X G (c.fact 37 (f := .str "DIGITS" "0123456789") rfl)
  exact ⟨⟨_, He.glo_ok X G (c.fact 2 (f := .glo "KEYWORDS") rfl), fun H => He.tupB_ok kt H⟩, ⟨_, e1, t1, rfl⟩, ⟨_, e2, t2, rfl⟩, ⟨_, e3, t3, rfl⟩, ⟨_, e4, t4, rfl⟩, ⟨_, e5, t5, rfl⟩⟩
theorem rdC_of (c : He.SaysD fas fns K) : RdC K (He.ga K "Reader") := ⟨He.cls_ok (c.fact 39 (f := .cls "Reader") rfl), He.noat_ok (c.fact 42 (f := .noat "Reader" "words") rfl), He.noat_ok (c.fact 43 (f := .noat "Reader" "at") rfl), He.noat_ok (c.fact 44 (f := .noat "Reader" "braces") rfl)⟩
theorem pgC_of (X : K.In h) (G : h.Ns mainGlobals mg) (c : He.SaysD fas fns K) (ex : exB K = true) : PgC K mg (He.ga K "Program") := by
  obtain ⟨_, ex⟩ := He.ba ex
  obtain ⟨x1, ex⟩ := He.ba ex
  obtain ⟨x2, ex⟩ := He.ba ex
  obtain ⟨x3, ex⟩ := He.ba ex
  obtain ⟨x4, ex⟩ := He.ba ex
  obtain ⟨x5, x6⟩ := He.ba ex
  exact ⟨He.cls_ok (c.fact 38 (f := .cls "Program") rfl), He.noat_ok (c.fact 40 (f := .noat "Program" "routines") rfl), He.noat_ok (c.fact 41 (f := .noat "Program" "body") rfl), He.glo_ok X G (c.fact 1 (f := .glo "Program") rfl), He.eqO_ok x1, He.eqO_ok x2, of_decide_eq_true x3, of_decide_eq_true x4, by unfold PySem.W.kitOne; exact if_pos (beq_self_eq_true _), of_decide_eq_true x5, x6⟩
theorem lw_of (X : K.In h) (G : h.Ns mainGlobals mg) (c : He.SaysD fas fns K) (ex : exB K = true) : Lw P w K mg base (He.ga K "Program") := by
  have B : Bi mg := bi_of X G c
  have Gv : Gb K mg := gb_of X G c ex
  have R := rdC_of c
  have RP : PgC K mg (He.ga K "Program") := pgC_of X G c ex
  obtain ⟨_, _, A_copy_statements⟩ := at_of_def X G c 0 0 (d := d_copy_statements) (x := "copy_statements") rfl rfl rfl rfl rfl
  obtain ⟨_, _, A_split_line⟩ := at_of_def X G c 1 3 (d := d_split_line) (x := "split_line") rfl rfl rfl rfl rfl
  obtain ⟨_, _, A_split_words⟩ := at_of_def X G c 2 4 (d := d_split_words) (x := "split_words") rfl rfl rfl rfl rfl
  obtain ⟨_, _, A_is_name⟩ := at_of_def X G c 3 5 (d := d_is_name) (x := "is_name") rfl rfl rfl rfl rfl
  obtain ⟨_, _, A_read_count⟩ := at_of_def X G c 4 6 (d := d_read_count) (x := "read_count") rfl rfl rfl rfl rfl
  obtain ⟨_, _, A_read_program⟩ := at_of_def X G c 5 8 (d := d_read_program) (x := "read_program") rfl rfl rfl rfl rfl
  obtain ⟨_, _, A_indent⟩ := at_of_def X G c 6 9 (d := d_indent) (x := "indent") rfl rfl rfl rfl rfl
  obtain ⟨_, _, A_write_statement⟩ := at_of_def X G c 7 10 (d := d_write_statement) (x := "write_statement") rfl rfl rfl rfl rfl
  obtain ⟨_, _, A_write_list⟩ := at_of_def X G c 8 11 (d := d_write_list) (x := "write_list") rfl rfl rfl rfl rfl
  obtain ⟨_, _, A_write_program⟩ := at_of_def X G c 9 12 (d := d_write_program) (x := "write_program") rfl rfl rfl rfl rfl
  obtain ⟨_, _, A_l_number⟩ := at_of_def X G c 10 13 (d := d_l_number) (x := "_law_number") rfl rfl rfl rfl rfl
  obtain ⟨_, _, A_l_digits⟩ := at_of_def X G c 11 14 (d := d_l_digits) (x := "_law_digits") rfl rfl rfl rfl rfl
  obtain ⟨_, _, A_l_digit⟩ := at_of_def X G c 12 15 (d := d_l_digit) (x := "_law_digit") rfl rfl rfl rfl rfl
  obtain ⟨_, _, A_l_name⟩ := at_of_def X G c 13 16 (d := d_l_name) (x := "_law_name") rfl rfl rfl rfl rfl
  obtain ⟨_, _, A_l_names⟩ := at_of_def X G c 14 17 (d := d_l_names) (x := "_law_names") rfl rfl rfl rfl rfl
  obtain ⟨_, _, A_l_plain⟩ := at_of_def X G c 15 18 (d := d_l_plain) (x := "_law_plain") rfl rfl rfl rfl rfl
  obtain ⟨_, _, A_l_statements⟩ := at_of_def X G c 16 19 (d := d_l_statements) (x := "_law_statements") rfl rfl rfl rfl rfl
  obtain ⟨_, _, A_l_routines⟩ := at_of_def X G c 17 20 (d := d_l_routines) (x := "_law_routines") rfl rfl rfl rfl rfl
  obtain ⟨_, _, A_l_lines⟩ := at_of_def X G c 18 21 (d := d_l_lines) (x := "_law_lines") rfl rfl rfl rfl rfl
  obtain ⟨_, _, A_l_written⟩ := at_of_def X G c 19 22 (d := d_l_written) (x := "_law_written") rfl rfl rfl rfl rfl
  obtain ⟨_, _, A_l_small⟩ := at_of_def X G c 20 23 (d := d_l_small) (x := "_law_small") rfl rfl rfl rfl rfl
  obtain ⟨_, _, A_P_routine⟩ := atM_of_def c 23 45 (d := d_P_routine) (C := "Program") (m := "routine") rfl rfl rfl rfl rfl
  obtain ⟨_, _, A_R_is_done⟩ := atM_of_def c 26 49 (d := d_R_is_done) (C := "Reader") (m := "is_done") rfl rfl rfl rfl rfl
  obtain ⟨_, _, A_R_peek⟩ := atM_of_def c 27 50 (d := d_R_peek) (C := "Reader") (m := "peek") rfl rfl rfl rfl rfl
  obtain ⟨_, _, A_R_take⟩ := atM_of_def c 28 51 (d := d_R_take) (C := "Reader") (m := "take") rfl rfl rfl rfl rfl
  obtain ⟨_, _, A_R_take_name⟩ := atM_of_def c 29 52 (d := d_R_take_name) (C := "Reader") (m := "take_name") rfl rfl rfl rfl rfl
  obtain ⟨_, _, A_R_take_switch⟩ := atM_of_def c 30 53 (d := d_R_take_switch) (C := "Reader") (m := "take_switch") rfl rfl rfl rfl rfl
  obtain ⟨_, _, A_R_take_count⟩ := atM_of_def c 31 54 (d := d_R_take_count) (C := "Reader") (m := "take_count") rfl rfl rfl rfl rfl
  obtain ⟨_, _, A_R_open_brace⟩ := atM_of_def c 32 55 (d := d_R_open_brace) (C := "Reader") (m := "open_brace") rfl rfl rfl rfl rfl
  obtain ⟨_, _, A_R_read_block⟩ := atM_of_def c 33 56 (d := d_R_read_block) (C := "Reader") (m := "read_block") rfl rfl rfl rfl rfl
  obtain ⟨_, _, A_R_read_statement⟩ := atM_of_def c 34 57 (d := d_R_read_statement) (C := "Reader") (m := "read_statement") rfl rfl rfl rfl rfl
  obtain ⟨_, _, A_R_read_plain⟩ := atM_of_def c 35 58 (d := d_R_read_plain) (C := "Reader") (m := "read_plain") rfl rfl rfl rfl rfl
  obtain ⟨_, _, A_R_read_if⟩ := atM_of_def c 36 59 (d := d_R_read_if) (C := "Reader") (m := "read_if") rfl rfl rfl rfl rfl
  obtain ⟨_, _, A_R_read_routine⟩ := atM_of_def c 37 60 (d := d_R_read_routine) (C := "Reader") (m := "read_routine") rfl rfl rfl rfl rfl
  obtain ⟨_, _, A_R_read_routines⟩ := atM_of_def c 38 61 (d := d_R_read_routines) (C := "Reader") (m := "read_routines") rfl rfl rfl rfl rfl
  obtain ⟨fdi, Fi⟩ := of_meth c 25 (d := d_R_init) (C := "Reader") (m := "__init__") rfl rfl rfl rfl
  obtain ⟨fdp, Fp⟩ := of_meth c 22 (d := d_P_init) (C := "Program") (m := "__init__") rfl rfl rfl rfl
  obtain ⟨fde, Fe⟩ := of_meth c 24 (d := d_P_eq) (C := "Program") (m := "__eq__") rfl rfl rfl rfl
  have me := He.meth_ok (c.fact 46 (f := .meth "Program" "__eq__") rfl)
  have Mp := He.mkr_ok (c.fact 47 (f := .mkr "Program") rfl)
  have Mr := He.mkr_ok (c.fact 48 (f := .mkr "Reader") rfl)
  have gr := He.glo_ok X G (c.fact 7 (f := .glo "Reader") rfl)
  -- the law's own
  have c_number : Cal P w K mg base _ _ 1 (spNumber K) := ok_number B A_l_number
  have c_digits := ok_digits B A_l_digits c_number
  have c_digit : Cal P w K mg base _ _ 1 spDigit := ok_digit B A_l_digit
  have c_name := ok_name B A_l_name c_digit
  have c_names := ok_names B A_l_names c_name
  have c_plain := ok_plain B A_l_plain c_digit
  have c_stmts := cal_stmts B A_l_statements c_digit c_plain
  have c_rts := ok_routines B A_l_routines c_names c_stmts
  have c_lines : Cal P w K mg base _ _ 3 (spLines K 3) := cal_lines B A_l_lines
  have c_written := ok_written B A_l_written c_lines
  have c_small := ok_small B A_l_small c_names c_rts c_digit c_stmts c_written
  -- the program's
  have c_copy : Cal P w K mg base "copy_statements" ["statements"] 3 (spCopy K 3) := ⟨_, _, cal_copy A_copy_statements 3, A_copy_statements.m, A_copy_statements.F.kp, A_copy_statements.F.bindsN fun _ _ _ _ _ _ us hl => match us, hl with | [_], _ => rfl⟩
  have f_pinit : FnOk P w K mg base CX0 4 _ _ _ _ := ok_P_init RP Fp c_copy
  have b_pinit : Binds K fdp ["self", "routines", "body"] [] := Fp.bindsN fun _ _ _ _ _ _ us hl => match us, hl with | [_, _, _], _ => rfl
  have c_routine := ok_P_routine RP A_P_routine c_copy
  have f_eq : FnOk P w K mg base CX0 1 _ _ _ _ := ok_P_eq B RP Fe
  have b_eq : Binds K fde ["self", "other"] [] := Fe.bindsN fun _ _ _ _ _ _ us hl => match us, hl with | [_, _], _ => rfl
  -- the words
  have c_line : Cal P w K mg base _ _ 1 spSplitL := ok_split_line B A_split_line
  have c_words := ok_split_words B A_split_words c_line
  have c_isname : Cal P w K mg base _ _ 1 spIsName := ok_is_name B Gv A_is_name
  have c_count : Cal P w K mg base _ _ 1 spCount := ok_count B Gv A_read_count
  -- the reader
  have f_rinit : FnOk P w K mg base CX0 1 _ _ _ _ := ok_R_init R Fi
  have b_rinit : Binds K fdi ["self", "words"] [] := Fi.bindsN fun _ _ _ _ _ _ us hl => match us, hl with | [_, _], _ => rfl
  have r_done : CalM P w K mg base _ _ _ 1 (spIsDone _) := ok_is_done B R A_R_is_done
  have r_peek := ok_peek B R A_R_peek r_done
  have r_take : CalM P w K mg base _ _ _ 1 (spTake _ okTake) := ok_take R A_R_take
  have r_name := ok_take_name R A_R_take_name r_peek r_take c_isname
  have r_switch := ok_take_switch R A_R_take_switch r_peek r_take
  have r_count := ok_take_count R A_R_take_count r_peek c_count
  have r_open := ok_open R A_R_open_brace r_peek
  have r_plain := ok_read_plain R A_R_read_plain r_name r_switch
  have M : RdM K (He.ga K "Reader") := ⟨⟨_, _, A_R_read_block⟩, ⟨_, _, A_R_read_statement⟩, ⟨_, _, A_R_read_if⟩⟩
  have r_st := cal_st R Gv M r_peek r_take r_plain r_count r_open r_name 3
  have r_blk := cal_block R Gv M r_peek r_take r_plain r_count r_open r_name
  have r_rt := ok_read_routine R A_R_read_routine r_peek r_name r_blk
  have r_rts := ok_read_routines B Gv R A_R_read_routines r_peek r_rt
  have c_read := ok_read_program B Gv R RP A_read_program gr Mr f_rinit b_rinit Mp f_pinit b_pinit c_words r_rts r_done r_st
  -- writing
  have c_ind : Cal P w K mg base _ _ 1 (spIndent K) := ok_indent A_indent
  have c_wl := cal_wl B A_write_statement A_write_list c_ind
  have c_write := ok_write_program RP A_write_program c_wl c_ind
  exact ⟨RP, c_digits, c_small, c_written, ⟨_, _, Mp, f_pinit, b_pinit⟩, c_read, c_write, c_routine, ⟨_, _, f_eq, me.at_, me.fn, b_eq⟩⟩
end
end K53
open PySem PySem.W PySem.Calls PyProof.Rows
theorem PySem.Challenge.cw_armwarrant_k53_whole_programs_read_back_holds : PySem.Challenge.rw_armwarrant_k53_whole_programs_read_back.Holds := by
  w_on; o_law
  refine HandSHeadRun.head_any (r := OpenLaw.row PySem.Challenge.rw_armwarrant_k53_whole_programs_read_back) (q := view (OpenLaw.row PySem.Challenge.rw_armwarrant_k53_whole_programs_read_back).prog [37]) (H := K53.hk) (ob := K53.ob) (M := 3000) (loose := K53.loose)
    (d := HandSHeadRun.topDef (OpenLaw.row PySem.Challenge.rw_armwarrant_k53_whole_programs_read_back).prog 37) (kwd := []) K53.ob_eq
    (by kernel_rfl) (fun s => by kernel_rfl) K53.run (by kernel_rfl) (by kernel_rfl) (by kernel_rfl) (by rfl) (by first | assumption | decide +kernel) (by decide +kernel) ⟨rfl, rfl, rfl, rfl, rfl, by decide +kernel⟩ ?hw ?hc
  case hw => w_witness2
  case hc =>
    refine Att.attach_call (n := 63) rfl (by kernel_rfl) fun w s0 s1 mg mb fa o pm cd doc a vs ns G Y ho hd hcd hmg hobj ia hlen hg => ?_
    obtain ⟨K, X, c, ex⟩ := Y
    have hmg2 : mg ("law" : PySem.Str) = some (.ref fa) := by
      have e : (HandSHeadRun.topDef (OpenLaw.row PySem.Challenge.rw_armwarrant_k53_whole_programs_read_back).prog 37).name = ("law" : PySem.Str) := by kernel_rfl
      rw [← e]
      exact hmg
    obtain ⟨f, fd, A⟩ := K53.at_of_def X G.T.g c 21 24 (d := K53.d_law) (x := "law") rfl rfl rfl rfl rfl
    obtain rfl : f = fa := Value.ref.inj (Option.some.inj (A.m.symm.trans hmg2))
    obtain ⟨base, H, kb, gb, env, hS, old⟩ := K53.root_env (P := (PySem.Challenge.rw_armwarrant_k53_whole_programs_read_back).prog) (w := w) X G.T.g G.T.b G.T.builtins G.T.nolimit hg hobj ia (Nat.le_trans hlen (by decide))
    have hr : L2.Room 15 callerA := ⟨rfl, by decide, by decide⟩
    have bnd : L2.Binds K fd ["_law_script"] [] := A.F.bindsN fun _ _ _ _ _ _ us hl => match us, hl with | [_], _ => rfl
    refine codeAny_mono (K53.run_top (us := [.ref a]) (vs := [.ref a]) (Q := fun v _ => v = .bl true) (E := fun _ _ _ => False) A.F K53.sc_law hr env (bnd s1 [.ref a] X rfl) rfl (.cons rfl .nil) fun cdv => K53.law_body (Q := fun v _ => v = .bl true) (E := fun _ _ _ => False) (K53.bi_of X G.T.g c) (K53.lw_of kb gb c ex) hr hS (fun _ => rfl) cdv) fun r s2 z => ?_
    cases r with
    | error e => exact z.elim
    | ok fl =>
      cases fl with
      | next => exact z.elim
      | brk => exact z.elim
      | cont => exact z.elim
      | ret u =>
        obtain ⟨v, H2, os, bare, un, ok2, rv, ev⟩ := z
        subst ev
        cases rv
        exact ⟨rfl, old H2 s2.heap un ok2, os, bare⟩

