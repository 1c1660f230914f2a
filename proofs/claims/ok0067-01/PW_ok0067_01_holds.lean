import PyProof.Rows.All
import Wide.All
import OpenK.AllK
import Wide.FinOn
import PySem.Challenge.RW_ok0067_01
open PySem PySem.W PySem.Calls PyProof.Rows
set_option Elab.async false
set_option maxRecDepth 100000
set_option maxHeartbeats 16000000
namespace Mine
section
local macro_rules | `(tactic| o_head $_) => `(tactic| contradiction)
theorem hd (h : False) : PySem.Challenge.rw_ok0067_01.row.Holds := by
  k_head
end
abbrev pg : Program := PySem.Challenge.rw_ok0067_01.row.prog
noncomputable def look (l : List (Nat × Obj)) : Nat → Option Obj :=
  @List.rec (Nat × Obj) (fun _ => Nat → Option Obj) (fun _ => none) (fun p _ ih i => @Bool.rec (fun _ => Option Obj) (ih i) (some p.2) (Nat.beq p.1 i)) l
noncomputable def full (h : Nat → Obj) (n : Nat) : Nat → Nat → Nat → BT
  | 0, _, _ => .nil
  | f + 1, a, b => match Nat.blt b n with
    | true => .node (h b) (full h n f (2 * a) (a + b)) (full h n f (2 * a) (2 * a + b))
    | false => .nil
theorem full_get (h : Nat → Obj) (n : Nat) : ∀ (f a b i : Nat), i + 1 < 2 ^ f → b + a * i < n → (full h n f a b).get i = some (h (b + a * i))
  | 0, a, b, i, hi, _ => by simp at hi
  | f + 1, a, b, i, hi, hn => by
    have hb : Nat.blt b n = true := by
      have : b < n := by have := Nat.zero_le (a * i); omega
      exact Nat.ble_eq_true_of_le this
    unfold full
    rw [hb]
    show (BT.node _ _ _).get i = _
    rw [BT.get_node]
    by_cases h0 : i = 0
    · subst h0; simp
    · rw [if_neg h0]
      rw [Nat.pow_succ] at hi
      by_cases h1 : i % 2 = 1
      · rw [if_pos h1]
        have e : b + a * i = (a + b) + 2 * a * (i / 2) := by
          have : i = 2 * (i / 2) + 1 := by omega
          conv => lhs; rw [this]
          rw [Nat.mul_add, Nat.mul_one, ← Nat.mul_assoc, Nat.mul_comm a 2]; omega
        rw [full_get h n f _ _ _ (by omega) (by rw [← e]; exact hn), e]
      · rw [if_neg h1]
        have e : b + a * i = (2 * a + b) + 2 * a * (i / 2 - 1) := by
          have : i = 2 * (i / 2 - 1) + 2 := by omega
          conv => lhs; rw [this]
          rw [Nat.mul_add, ← Nat.mul_assoc, Nat.mul_comm a 2]; omega
        rw [full_get h n f _ _ _ (by omega) (by rw [← e]; exact hn), e]
noncomputable def SS (n tk : Nat) (L : List (Nat × Obj)) (g : Nat → Obj) (os : OsState) : SharedT := ⟨full (fun b => (look L b).getD (g b)) n 12 1 0, n, {}, #[], {}, tk, os⟩
theorem look_of {T : BT} : ∀ {L : List (Nat × Obj)}, (L.map (·.1)).map T.get = L.map (fun p => some p.2) → ∀ i o, look L i = some o → T.get i = some o
  | [], _, i, o, h => by cases h
  | p :: r, e, i, o, h => by
    simp only [List.map_cons, List.cons.injEq] at e
    have h' : @Bool.rec (fun _ => Option Obj) (look r i) (some p.2) (Nat.beq p.1 i) = some o := h
    cases q : Nat.beq p.1 i with
    | true =>
      rw [q] at h'
      cases Nat.eq_of_beq_eq_true q
      cases h'
      exact e.1
    | false =>
      rw [q] at h'
      exact look_of e.2 i o h'
theorem abs_SS {T : BT} {n tk : Nat} {os : OsState} {L : List (Nat × Obj)} (hn : Nat.ble n 4094 = true) (e : (L.map (·.1)).map T.get = L.map (fun p => some p.2)) :
    (SharedT.mk T n {} #[] {} tk os).abs = (SS n tk L (fun i => (T.get i).getD default) os).abs := by
  have : absHeap T n {} = absHeap (full (fun b => (look L b).getD ((T.get b).getD default)) n 12 1 0) n {} := by
    unfold absHeap BT.list
    congr 1
    congr 1
    apply List.map_congr_left
    intro i hi
    have hi := List.mem_range.mp hi
    have hn := Nat.le_of_ble_eq_true hn
    rw [full_get _ _ _ _ _ _ (by omega) (by omega)]
    rw [Nat.one_mul, Nat.zero_add, Option.getD_some]
    cases q : look L i with
    | none => rfl
    | some o => rw [look_of e i o q]; rfl
  unfold SS SharedT.abs
  rw [this]
def chk (as : List Nat) (r : Flow × SharedT × Code × Pos) : Flow × List (Option Obj) × (Nat × Life × Array GenState × Drawn × Nat × OsState) × Code × Pos :=
  (r.1, as.map r.2.1.tree.get, (r.2.1.n, r.2.1.life, r.2.1.gens, r.2.1.drawn, r.2.1.toks, r.2.1.os), r.2.2)
theorem piece_of {p : Program} {w : World} {n₀ : Nat} {ann : Option Value} {N : Nat} {s : SharedT} {t : Thread} {n tk : Nat} {os : OsState} {L : List (Nat × Obj)} {c : Code} {q : Pos}
    (hn : Nat.ble n 4094 = true)
    (h : (segRunT treeTable p w n₀ ann 1 N s t).map (chk (L.map (·.1))) = some (.next, L.map (fun p => some p.2), (n, {}, #[], {}, tk, os), c, q)) :
    ∃ g, segRun treeTable p w n₀ ann 1 N s.abs t = some (.next, (SS n tk L g os).abs, c, q) := by
  obtain ⟨r, h1, h2⟩ := Option.map_eq_some_iff.mp h
  obtain ⟨f, ⟨T, n', life, gens, drawn, toks, os'⟩, c', q'⟩ := r
  simp only [chk, Prod.mk.injEq] at h2
  obtain ⟨rfl, e, ⟨rfl, rfl, rfl, rfl, rfl, rfl⟩, rfl, rfl⟩ := h2
  refine ⟨fun i => (T.get i).getD default, ?_⟩
  rw [segRun_of h1, abs_SS hn e]
noncomputable def upTo (n : Nat) (l : List (Nat × Obj)) : List (Nat × Obj) :=
  @List.rec (Nat × Obj) (fun _ => List (Nat × Obj)) [] (fun p _ ih => @Bool.rec (fun _ => List (Nat × Obj)) [] (@Bool.rec (fun _ => List (Nat × Obj)) (p :: ih) ih (Nat.beq p.1 141)) (Nat.blt p.1 n)) l
def rows12 : List (Int × Addr) := [(1, 20), (5, 27), (11, 47), (18, 74), (23, 95), (31, 116), (43, 151), (93, 235), (130, 312), (154, 375), (175, 431), (179, 438), (185, 445), (212, 494), (255, 585), (281, 655), (341, 757), (343, 764), (350, 771), (352, 778), (355, 785), (382, 792), (393, 799)]
def o12 (k : Nat) : Obj := ⟨.none, none, .fields ((rows12.take k).flatMap fun r => [.int r.1 0, .int 0 0, .ref r.2]).toArray, #[]⟩
def o13 : Obj := ⟨.type "code", none, .fields #[.str (.ofString "<module>") 182, .str (.ofString "<module>") 183, .str (.ofString "/claim/cut.py") 184, .int 1 0, .int 0 0, .int 0 0, .int 0 0, .int 0 0, .ref 11, .bool false, .int 181 0, .ref 12, .none, .none, .none, .none, .int 185 0, .int 1 0, .str (.ofString "/claim/cut.py") 186], #[]⟩
def o14 : Obj := ⟨.type "frame", none, .plain, #[some (.ref 13), some (.ref 3), some (.ref 3), none, some (.str (.ofString "__main__") 164), none, some (.ref 0)]⟩
def o141 (l : List Value) : Obj := ⟨.type "type", none, .cls { name := .ofString "Opaque", bases := [.type "object"], mro := [.ref 141, .type "object"], ns := 140, qualname := .ofString "Opaque", subclasses := l }, #[none, none, some (.str (.ofString "Opaque") 348), some (.str (.ofString "Opaque") 356), some (.builtin "object.__new__"), some (.bool true)]⟩
def tb0 (a : Nat) : Nat × Obj := (a, ⟨.none, none, .fields #[], #[]⟩)
def mainAt (o : Option Obj) (m : Nat) (nm : String) (nt : Nat) : Obj := match o with
  | some ⟨c, d, .dict es _, sl⟩ => match es.toList with
    | e :: r => ⟨c, d, .dict ({ e with val := .str (.ofString nm) nt } :: r.take (m - 1)).toArray m, sl⟩
    | [] => default
  | _ => default
noncomputable def boots (P : Params) : List (Nat × Obj) := [(0, boot_o_0 P), (1, boot_o_1 P), (4, boot_o_4 P), (5, boot_o_5 P), (6, boot_o_6 P), (7, boot_o_7 P), (8, boot_o_8 P), (9, boot_o_9 P), (10, boot_o_10 P), (11, ⟨.type "tuple", none, .seq #[] 0, #[]⟩), (13, o13), (14, o14)]
noncomputable def L0 (P : Params) : List (Nat × Obj) := (2, boot_o_2 P) :: (3, boot_o_3 P) :: (12, o12 0) :: boots P
noncomputable def LL (P : Params) (n m : Nat) (nm : String) (nt k : Nat) (x : List (Nat × Obj)) : List (Nat × Obj) := match hd.heap_1 P with
  | p2 :: p3 :: r => p2 :: (3, mainAt (some p3.2) m nm nt) :: (12, o12 k) :: (boots P ++ (x ++ upTo n r))
  | _ => []
noncomputable abbrev segTw := PySem.W.Fast.tw10110043849684766642 PySem.W.Fast.tw14364793385576792824
noncomputable abbrev execsTw := PySem.W.Fast.tw12563942051412417395
def code0 : Value := .ref 13
noncomputable def env0 : Env := { scope := pg.main.scope, locals := mainNs, globals := mainNs, cells := [], code := code0, frame := some 14 }
noncomputable def cE : Code := .body pg.main.body env0
def pos0 : Pos := ⟨0, 0, 0, 0⟩
noncomputable def B0 : List Frame := [topFrame pos0]
noncomputable def sl (i j : Nat) : List Stmt := (pg.main.body.drop i).take j
theorem step0 (w : World) (os : OsState) (g : Nat → Obj) : (segTw pg w 11 (some (.ref 6)) 1 502 (SS 15 187 (L0 w.params) g os) ⟨(execsTw (sl 0 5) env0).wrap doneF deadEnd id id, cE, pos0, B0⟩).map (chk ((LL w.params 63 12 "emacs.objects" 227 3 [(tb0 16)]).map (·.1))) = some (.next, (LL w.params 63 12 "emacs.objects" 227 3 [(tb0 16)]).map (fun p => some p.2), (63, {}, #[], {}, 260, os), cE, { line := 11, col := 0, endLine := 15, endCol := 24 }) := by
  kernel_rfl
theorem step1 (w : World) (os : OsState) (g : Nat → Obj) : (segTw pg w 11 (some (.ref 6)) 1 499 (SS 63 260 (LL w.params 63 12 "emacs.objects" 227 3 [(tb0 16)]) g os) ⟨(execsTw (sl 5 3) env0).wrap doneF deadEnd id id, cE, { line := 11, col := 0, endLine := 15, endCol := 24 }, B0⟩).map (chk ((LL w.params 90 15 "emacs.objects" 227 4 [(tb0 16)]).map (·.1))) = some (.next, (LL w.params 90 15 "emacs.objects" 227 4 [(tb0 16)]).map (fun p => some p.2), (90, {}, #[], {}, 311, os), cE, { line := 18, col := 0, endLine := 22, endCol := 22 }) := by
  kernel_rfl
theorem step2 (w : World) (os : OsState) (g : Nat → Obj) : (segTw pg w 11 (some (.ref 6)) 1 514 (SS 90 311 (LL w.params 90 15 "emacs.objects" 227 4 [(tb0 16)]) g os) ⟨(execsTw (sl 8 2) env0).wrap doneF deadEnd id id, cE, { line := 18, col := 0, endLine := 22, endCol := 22 }, B0⟩).map (chk ((LL w.params 146 17 "emacs.objects" 227 6 [(141, o141 []), (tb0 16)]).map (·.1))) = some (.next, (LL w.params 146 17 "emacs.objects" 227 6 [(141, o141 []), (tb0 16)]).map (fun p => some p.2), (146, {}, #[], {}, 390, os), cE, { line := 31, col := 0, endLine := 40, endCol := 16 }) := by
  kernel_rfl
theorem step3 (w : World) (os : OsState) (g : Nat → Obj) : (segTw pg w 11 (some (.ref 6)) 1 539 (SS 146 390 (LL w.params 146 17 "emacs.objects" 227 6 [(141, o141 []), (tb0 16)]) g os) ⟨(execsTw (sl 10 3) env0).wrap doneF deadEnd id id, cE, { line := 31, col := 0, endLine := 40, endCol := 16 }, B0⟩).map (chk ((LL w.params 230 19 "emacs.cells" 390 7 [(141, o141 []), (tb0 16)]).map (·.1))) = some (.next, (LL w.params 230 19 "emacs.cells" 390 7 [(141, o141 []), (tb0 16)]).map (fun p => some p.2), (230, {}, #[], {}, 505, os), cE, { line := 43, col := 0, endLine := 91, endCol := 16 }) := by
  kernel_rfl
theorem step4 (w : World) (os : OsState) (g : Nat → Obj) : (segTw pg w 11 (some (.ref 6)) 1 488 (SS 230 505 (LL w.params 230 19 "emacs.cells" 390 7 [(141, o141 []), (tb0 16)]) g os) ⟨(execsTw (sl 13 2) env0).wrap doneF deadEnd id id, cE, { line := 43, col := 0, endLine := 91, endCol := 16 }, B0⟩).map (chk ((LL w.params 307 20 "emacs.obarray" 505 8 [(141, o141 []), (tb0 16)]).map (·.1))) = some (.next, (LL w.params 307 20 "emacs.obarray" 505 8 [(141, o141 []), (tb0 16)]).map (fun p => some p.2), (307, {}, #[], {}, 600, os), cE, { line := 93, col := 0, endLine := 127, endCol := 17 }) := by
  kernel_rfl
theorem step5 (w : World) (os : OsState) (g : Nat → Obj) : (segTw pg w 11 (some (.ref 6)) 1 436 (SS 307 600 (LL w.params 307 20 "emacs.obarray" 505 8 [(141, o141 []), (tb0 16)]) g os) ⟨(execsTw (sl 15 3) env0).wrap doneF deadEnd id id, cE, { line := 93, col := 0, endLine := 127, endCol := 17 }, B0⟩).map (chk ((LL w.params 370 22 "emacs.variables" 600 9 [(141, o141 []), (tb0 16)]).map (·.1))) = some (.next, (LL w.params 370 22 "emacs.variables" 600 9 [(141, o141 []), (tb0 16)]).map (fun p => some p.2), (370, {}, #[], {}, 684, os), cE, { line := 130, col := 0, endLine := 153, endCol := 17 }) := by
  kernel_rfl
theorem step6 (w : World) (os : OsState) (g : Nat → Obj) : (segTw pg w 11 (some (.ref 6)) 1 454 (SS 370 684 (LL w.params 370 22 "emacs.variables" 600 9 [(141, o141 []), (tb0 16)]) g os) ⟨(execsTw (sl 18 4) env0).wrap doneF deadEnd id id, cE, { line := 130, col := 0, endLine := 153, endCol := 17 }, B0⟩).map (chk ((LL w.params 440 25 "emacs.world" 771 12 [(141, o141 []), (tb0 16), (tb0 427), (tb0 434)]).map (·.1))) = some (.next, (LL w.params 440 25 "emacs.world" 771 12 [(141, o141 []), (tb0 16), (tb0 427), (tb0 434)]).map (fun p => some p.2), (440, {}, #[], {}, 773, os), cE, { line := 184, col := 0, endLine := 184, endCol := 8 }) := by
  kernel_rfl
theorem step7 (w : World) (os : OsState) (g : Nat → Obj) : (segTw pg w 11 (some (.ref 6)) 1 364 (SS 440 773 (LL w.params 440 25 "emacs.world" 771 12 [(141, o141 []), (tb0 16), (tb0 427), (tb0 434)]) g os) ⟨(execsTw (sl 22 2) env0).wrap doneF deadEnd id id, cE, { line := 184, col := 0, endLine := 184, endCol := 8 }, B0⟩).map (chk ((LL w.params 489 26 "emacs.gap" 838 13 [(141, o141 []), (tb0 16), (tb0 427), (tb0 434)]).map (·.1))) = some (.next, (LL w.params 489 26 "emacs.gap" 838 13 [(141, o141 []), (tb0 16), (tb0 427), (tb0 434)]).map (fun p => some p.2), (489, {}, #[], {}, 840, os), cE, { line := 211, col := 0, endLine := 211, endCol := 8 }) := by
  kernel_rfl
theorem step8 (w : World) (os : OsState) (g : Nat → Obj) : (segTw pg w 11 (some (.ref 6)) 1 558 (SS 489 840 (LL w.params 489 26 "emacs.gap" 838 13 [(141, o141 []), (tb0 16), (tb0 427), (tb0 434)]) g os) ⟨(execsTw (sl 24 2) env0).wrap doneF deadEnd id id, cE, { line := 211, col := 0, endLine := 211, endCol := 8 }, B0⟩).map (chk ((LL w.params 580 27 "emacs.markers" 955 14 [(141, o141 []), (tb0 16), (tb0 427), (tb0 434)]).map (·.1))) = some (.next, (LL w.params 580 27 "emacs.markers" 955 14 [(141, o141 []), (tb0 16), (tb0 427), (tb0 434)]).map (fun p => some p.2), (580, {}, #[], {}, 957, os), cE, { line := 254, col := 0, endLine := 254, endCol := 8 }) := by
  kernel_rfl
theorem step9 (w : World) (os : OsState) (g : Nat → Obj) : (segTw pg w 11 (some (.ref 6)) 1 461 (SS 580 957 (LL w.params 580 27 "emacs.markers" 955 14 [(141, o141 []), (tb0 16), (tb0 427), (tb0 434)]) g os) ⟨(execsTw (sl 26 2) env0).wrap doneF deadEnd id id, cE, { line := 254, col := 0, endLine := 254, endCol := 8 }, B0⟩).map (chk ((LL w.params 650 28 "emacs.buffer" 1047 15 [(141, o141 []), (tb0 16), (tb0 427), (tb0 434)]).map (·.1))) = some (.next, (LL w.params 650 28 "emacs.buffer" 1047 15 [(141, o141 []), (tb0 16), (tb0 427), (tb0 434)]).map (fun p => some p.2), (650, {}, #[], {}, 1049, os), cE, { line := 280, col := 0, endLine := 280, endCol := 8 }) := by
  kernel_rfl
theorem step10 (w : World) (os : OsState) (g : Nat → Obj) : (segTw pg w 11 (some (.ref 6)) 1 656 (SS 650 1049 (LL w.params 650 28 "emacs.buffer" 1047 15 [(141, o141 []), (tb0 16), (tb0 427), (tb0 434)]) g os) ⟨(execsTw (sl 28 2) env0).wrap doneF deadEnd id id, cE, { line := 280, col := 0, endLine := 280, endCol := 8 }, B0⟩).map (chk ((LL w.params 754 29 "law_ok0067_01" 1186 16 [(141, o141 [.ref 751]), (tb0 16), (tb0 427), (tb0 434)]).map (·.1))) = some (.next, (LL w.params 754 29 "law_ok0067_01" 1186 16 [(141, o141 [.ref 751]), (tb0 16), (tb0 427), (tb0 434)]).map (fun p => some p.2), (754, {}, #[], {}, 1188, os), cE, { line := 340, col := 0, endLine := 340, endCol := 8 }) := by
  kernel_rfl
theorem step11 (w : World) (os : OsState) (g : Nat → Obj) : (segTw pg w 11 (some (.ref 6)) 1 226 (SS 754 1188 (LL w.params 754 29 "law_ok0067_01" 1186 16 [(141, o141 [.ref 751]), (tb0 16), (tb0 427), (tb0 434)]) g os) ⟨(execsTw (sl 30 7) env0).wrap doneF deadEnd id id, cE, { line := 340, col := 0, endLine := 340, endCol := 8 }, B0⟩).map (chk ((LL w.params 801 36 "law_ok0067_01" 1186 23 [(141, o141 [.ref 751]), (tb0 16), (tb0 427), (tb0 434), (tb0 755), (tb0 760), (tb0 767), (tb0 774), (tb0 781), (tb0 788), (tb0 795)]).map (·.1))) = some (.next, (LL w.params 801 36 "law_ok0067_01" 1186 23 [(141, o141 [.ref 751]), (tb0 16), (tb0 427), (tb0 434), (tb0 755), (tb0 760), (tb0 767), (tb0 774), (tb0 781), (tb0 788), (tb0 795)]).map (fun p => some p.2), (801, {}, #[], {}, 1261, os), cE, { line := 393, col := 0, endLine := 406, endCol := 118 }) := by
  kernel_rfl
def topGoT (tb : String → Option Builtin) (p : Program) (w : World) (n₀ : Nat) (ann : Option Value) : Nat → SharedT → Thread → Option (SharedT × Thread)
  | 0, s, t => some (s, t)
  | n + 1, s, t => match through t with
    | true => none
    | false => match stepOk n₀ ann t with
      | false => none
      | true => match stepT (denote tb) p w s t with
        | some (s', t') => topGoT tb p w n₀ ann n s' t'
        | none => none
theorem topGo_of {tb : String → Option Builtin} {p : Program} {w : World} {n₀ : Nat} {ann : Option Value} : ∀ {n : Nat} {s s' : SharedT} {t t' : Thread}, topGoT tb p w n₀ ann n s t = some (s', t') → topGo tb p w n₀ ann n s.abs t = some (s'.abs, t')
  | 0, _, _, _, _, h => by cases h; rfl
  | n + 1, s, s', t, t', h => by
    unfold topGoT at h
    unfold topGo
    cases he : through t with
    | true => rw [he] at h; cases h
    | false =>
      rw [he] at h
      cases hk : stepOk n₀ ann t with
      | false => rw [hk] at h; cases h
      | true =>
        rw [hk] at h
        cases hs : stepT (denote tb) p w s t with
        | none => rw [hs] at h; cases h
        | some r => obtain ⟨s₂, t₂⟩ := r; rw [hs] at h; rw [stepT_spec hs]; exact topGo_of h
def treeOf : List Obj → Nat → BT → BT
  | [], _, t => t
  | o :: r, n, t => treeOf r (n + 1) (t.ins n o)
noncomputable def bootT (w : World) (os : OsState) : SharedT := ⟨treeOf (boot_heap w.params).objs.toList 0 .nil, 11, {}, #[], {}, 181, os⟩
theorem boot_abs (w : World) (os : OsState) : (bootT w os).abs = ⟨boot_heap w.params, #[], boot_drawn, boot_toks, os⟩ := by
  kernel_rfl
def chk2 (as : List Nat) (r : SharedT × Thread) : List (Option Obj) × (Nat × Life × Array GenState × Drawn × Nat × OsState) × Thread :=
  (as.map r.1.tree.get, (r.1.n, r.1.life, r.1.gens, r.1.drawn, r.1.toks, r.1.os), r.2)
theorem pre_chk (w : World) (os : OsState) : (topGoT treeTable pg w 11 (some (.ref 6)) 12 (bootT w os) (topStub pg)).map (chk2 ((L0 w.params).map (·.1))) =
    some ((L0 w.params).map (fun p => some p.2), (15, {}, #[], {}, 187, os), ⟨denote treeTable cE, cE, pos0, B0⟩) := by
  kernel_rfl
theorem pre_of (w : World) (os : OsState) : ∃ g, topGo treeTable pg w 11 (some (.ref 6)) 12 ⟨boot_heap w.params, #[], boot_drawn, boot_toks, os⟩ (topStub pg) = some ((SS 15 187 (L0 w.params) g os).abs, ⟨denote treeTable cE, cE, pos0, B0⟩) := by
  obtain ⟨⟨s', t'⟩, h1, h2⟩ := Option.map_eq_some_iff.mp (pre_chk w os)
  obtain ⟨T, n', life, gens, drawn, toks, os'⟩ := s'
  simp only [chk2, Prod.mk.injEq] at h2
  obtain ⟨e, ⟨rfl, rfl, rfl, rfl, rfl, rfl⟩, rfl⟩ := h2
  exact ⟨_, by rw [← boot_abs, topGo_of h1, abs_SS (by decide) e]⟩
theorem block_of (w : World) (s : Shared) : segRun treeTable pg w 11 (some (.ref 6)) 1 1 s (blockOf pg.main.body env0 cE pos0 B0) = some (.next, s, cE, pos0) := by
  kernel_rfl
theorem fin_of (w : World) (s : Shared) (q : Pos) : topRun treeTable pg w 11 (some (.ref 6)) 2 s ⟨doneF .next, cE, q, B0⟩ = some s := by
  obtain ⟨h, gs, d, k, os⟩ := s
  kernel_rfl
theorem body_split : pg.main.body = sl 0 5 ++ (sl 5 3 ++ (sl 8 2 ++ (sl 10 3 ++ (sl 13 2 ++ (sl 15 3 ++ (sl 18 4 ++ (sl 22 2 ++ (sl 24 2 ++ (sl 26 2 ++ (sl 28 2 ++ (sl 30 7 ++ []))))))))))) := by
  kernel_rfl
theorem step_of {w : World} {N n tk : Nat} {s : SharedT} {l : List Stmt} {q q' : Pos} {os : OsState} {L : List (Nat × Obj)}
    (h : (segTw pg w 11 (some (.ref 6)) 1 N s ⟨(execsTw l env0).wrap doneF deadEnd id id, cE, q, B0⟩).map (chk (L.map (·.1))) = some (.next, L.map (fun p => some p.2), (n, {}, #[], {}, tk, os), cE, q')) (hn : Nat.ble n 4094 = true) :
    ∃ g, segRun treeTable pg w 11 (some (.ref 6)) 1 N s.abs (piecesOf l env0 cE q B0) = some (.next, (SS n tk L g os).abs, cE, q') :=
  piece_of hn (by
    have e1 := PySem.W.Fast.te10110043849684766642
    have e2 := PySem.W.Fast.te14364793385576792824
    have e3 := PySem.W.Fast.te12563942051412417395
    rw [e1, e2]
    show (segTw pg w 11 (some (.ref 6)) 1 N s ⟨(execs l env0).wrap doneF deadEnd id id, cE, q, B0⟩).map (chk (L.map (·.1))) = _
    rw [e3]
    exact h)
noncomputable abbrev LF (P : Params) : List (Nat × Obj) := LL P 801 36 "law_ok0067_01" 1186 23 [(141, o141 [.ref 751]), (tb0 16), (tb0 427), (tb0 434), (tb0 755), (tb0 760), (tb0 767), (tb0 774), (tb0 781), (tb0 788), (tb0 795)]
section
variable {tb : String → Option Builtin} {p : Program} {w : World} {n₀ : Nat} {ann : Option Value} {env : Env} {q : Pos}
theorem mono_to {n N : Nat} {s r : Shared} {t : Thread} (h : topRun tb p w n₀ ann n s t = some r) (le : Nat.ble n N = true) : topRun tb p w n₀ ann N s t = some r := by
  have le := Nat.le_of_ble_eq_true le
  have := topRun_mono (N - n) _ _ _ _ h
  rw [show n + (N - n) = N by omega] at this
  exact this
theorem blk {n N : Nat} {s s' r : Shared} {b l : List Stmt} {c : Code} {pos p' : Pos} (e : b = l) (h : segRun tb p w n₀ ann 1 n s (blockOf b env c pos [topFrame q]) = some (.next, s', c, p'))
    (k : topRun tb p w n₀ ann N s' (restOf l env c p' [topFrame q]) = some r) : topRun tb p w n₀ ann (n + N) s ⟨denote tb (.body b env), c, pos, [topFrame q]⟩ = some r := by
  subst e
  exact piece_block h k
end
theorem run_all (w : World) (os : OsState) : ∃ g, topRun treeTable pg w 11 (some (.ref 6)) 11496 ⟨boot_heap w.params, #[], boot_drawn, boot_toks, os⟩ (topStub pg) = some (SS 801 1261 (LF w.params) g os).abs :=
  let ⟨g, hp⟩ := pre_of w os
  let ⟨g0, h0⟩ := step_of (step0 w os g) rfl
  let ⟨g1, h1⟩ := step_of (step1 w os g0) rfl
  let ⟨g2, h2⟩ := step_of (step2 w os g1) rfl
  let ⟨g3, h3⟩ := step_of (step3 w os g2) rfl
  let ⟨g4, h4⟩ := step_of (step4 w os g3) rfl
  let ⟨g5, h5⟩ := step_of (step5 w os g4) rfl
  let ⟨g6, h6⟩ := step_of (step6 w os g5) rfl
  let ⟨g7, h7⟩ := step_of (step7 w os g6) rfl
  let ⟨g8, h8⟩ := step_of (step8 w os g7) rfl
  let ⟨g9, h9⟩ := step_of (step9 w os g8) rfl
  let ⟨g10, h10⟩ := step_of (step10 w os g9) rfl
  let ⟨g11, h11⟩ := step_of (step11 w os g10) rfl
  ⟨g11, mono_to (go_top hp (blk body_split (block_of w _) (piece_app h0 (piece_app h1 (piece_app h2 (piece_app h3 (piece_app h4 (piece_app h5 (piece_app h6 (piece_app h7 (piece_app h8 (piece_app h9 (piece_app h10 (piece_app h11 (piece_nil (fin_of w (SS 801 1261 (LF w.params) g11 os).abs _)))))))))))))))) (by rfl)⟩
noncomputable abbrev SF (w : World) (g : Nat → Obj) (os : OsState) : Shared := (SS 801 1261 (LF w.params) g os).abs
def vw : Program := view pg [0, 2, 4, 5, 6, 7, 8, 9, 11, 12, 14, 16, 17, 18, 19, 20, 22, 24, 26, 28, 30, 31, 32, 33, 34, 35, 36]
def lo : List Str := [Str.ofString "NIL", Str.ofString "T", Str.ofString "Buffer"]
def Xt (s : Shared) : Bool := xlAt vw [] s && recOk (RowW.records (OpenRow.toRowW PySem.Challenge.rw_ok0067_01.row)) s
theorem lk1 (w : World) (g : Nat → Obj) (os : OsState) : staticsOk (importedModules pg.main.body) (boot_heap w.params) (SF w g os).heap = true := by kernel_rfl
theorem lk2 (w : World) (g : Nat → Obj) (os : OsState) : namesBound pg (SF w g os).heap = true := by kernel_rfl
theorem lk3 (w : World) (g : Nat → Obj) (os : OsState) : gensDone (SF w g os) = true := by kernel_rfl
theorem lk4 (w : World) (g : Nat → Obj) (os : OsState) : laidKept (boot_heap w.params) (SF w g os).heap = true := by kernel_rfl
theorem sn1 (w : World) (g : Nat → Obj) (os : OsState) : seen ((recsOf vw).map (·.name)) (ownsOf vw) [] { SF w g os with gens := #[] } = expectedOf vw := by kernel_rfl
theorem sn2 (w : World) (g : Nat → Obj) (os : OsState) : (SF w g os).heap.bltView = bltViewBooted := by kernel_rfl
theorem sn3a (w : World) (g : Nat → Obj) (os : OsState) : (SF w g os).heap.keysOk (looseW vw lo) ((recsOf vw).map (·.name)) ((litsOf vw).map (·.1)) ((clssOf vw (looseW vw lo)).map (·.name)) = true := by kernel_rfl
theorem sn3b (w : World) (g : Nat → Obj) (os : OsState) : (SF w g os).heap.accountedOkI (importedModules pg.main.body) = true := by kernel_rfl
theorem sn3c (w : World) (g : Nat → Obj) (os : OsState) : tablesOk vw (SF w g os).heap = true := by kernel_rfl
theorem sn3d (w : World) (g : Nat → Obj) (os : OsState) : Xt (SF w g os) = true := by kernel_rfl
theorem sn4 (w : World) (g : Nat → Obj) (os : OsState) : tabsOk vw (SF w g os) = true := by kernel_rfl
theorem sn5 (w : World) (g : Nat → Obj) (os : OsState) : pinSeenD vw (drecsOf vw) (SF w g os) = pinGoodD (drecsOf vw) := by kernel_rfl
theorem map_cut {α β : Type} {f g : α → β} {l : List α} (k : Nat) (h1 : (l.take k).map f = (l.take k).map g) (h2 : (l.drop k).map f = (l.drop k).map g) : l.map f = l.map g := by
  have e := List.take_append_drop k l
  rw [← e, List.map_append, List.map_append, h1, h2]
theorem sn6a (w : World) (g : Nat → Obj) (os : OsState) : ((plainsOf vw (looseW vw lo)).take 6).map (fun c => (SF w g os).heap.plainShapeAt c.withCmp) = ((plainsOf vw (looseW vw lo)).take 6).map (fun c => some c.withCmp.plainShape) := by kernel_rfl
theorem sn6b (w : World) (g : Nat → Obj) (os : OsState) : (((plainsOf vw (looseW vw lo)).drop 6).take 3).map (fun c => (SF w g os).heap.plainShapeAt c.withCmp) = (((plainsOf vw (looseW vw lo)).drop 6).take 3).map (fun c => some c.withCmp.plainShape) := by kernel_rfl
theorem sn6c (w : World) (g : Nat → Obj) (os : OsState) : (((plainsOf vw (looseW vw lo)).drop 6).drop 3).map (fun c => (SF w g os).heap.plainShapeAt c.withCmp) = (((plainsOf vw (looseW vw lo)).drop 6).drop 3).map (fun c => some c.withCmp.plainShape) := by kernel_rfl
theorem sn6 (w : World) (g : Nat → Obj) (os : OsState) : plainSeenE vw (looseW vw lo) (SF w g os) = plainGoodE vw (looseW vw lo) := map_cut 6 (sn6a w g os) (map_cut 3 (sn6b w g os) (sn6c w g os))
theorem sn7 (w : World) (g : Nat → Obj) (os : OsState) : plainSeenD vw lo (SF w g os) = plainGoodD vw lo := by kernel_rfl
theorem sn8 (w : World) (g : Nat → Obj) (os : OsState) : wideSeen vw (SF w g os) = wideGood vw := by kernel_rfl
theorem sn9 (w : World) (g : Nat → Obj) (os : OsState) : clsSeenW vw lo (SF w g os) = clsGoodW vw lo := by kernel_rfl
theorem seen_all (w : World) (g : Nat → Obj) (os : OsState) : openSeen vw lo (importedModules pg.main.body) Xt true (SF w g os) = openGood vw lo := by
  have e3 : ((SF w g os).heap.keysOk (looseW vw lo) ((recsOf vw).map (·.name)) ((litsOf vw).map (·.1)) ((clssOf vw (looseW vw lo)).map (·.name)) && (SF w g os).heap.accountedOkI (importedModules pg.main.body) && (SF w g os).heap.isNs mainGlobals && (SF w g os).heap.isNs builtinsNs && tablesOk vw (SF w g os).heap && Xt (SF w g os) && (if true then (SF w g os).gens.size == 0 else !leftWithCleanup (SF w g os).gens)) = true := by
    rw [sn3a, sn3b, sn3c, sn3d]
    kernel_rfl
  unfold openSeen openGood
  rw [sn1, sn2, e3, sn4, sn5, sn6, sn7, sn8, sn9]
theorem hook_of {T : BT} {n : Nat} {life : Life} : ∀ {K : Frag}, (K.map (fun p => (Nat.blt p.1 n, T.get p.1, alive p.2)) = K.map (fun p => (true, some p.2, some p.2))) → (K.map (·.1)).map (absHeap T n life).get? = K.map (fun p => some p.2)
  | [], _ => rfl
  | p :: r, e => by
    simp only [List.map_cons, List.cons.injEq, Prod.mk.injEq] at e ⊢
    obtain ⟨⟨e1, e2, e3⟩, e4⟩ := e
    exact ⟨(abs_get (Nat.le_of_ble_eq_true e1) e2).trans e3, hook_of e4⟩
noncomputable def asK : List Addr := [2, 3, 15, 17, 18, 20, 21, 22, 29, 31, 32, 34, 35, 36, 37, 38, 39, 49, 51, 52, 54, 55, 56, 57, 58, 59, 60, 63, 64, 66, 67, 76, 78, 79, 81, 82, 83, 84, 85, 86, 87, 97, 99, 100, 102, 103, 104, 105, 106, 107, 108, 118, 120, 121, 123, 124, 125, 127, 128, 130, 131, 132, 134, 135, 137, 138, 139, 140, 141, 142, 143, 153, 155, 156, 158, 159, 160, 162, 163, 165, 166, 167, 169, 170, 172, 173, 174, 176, 177, 179, 180, 181, 183, 184, 186, 187, 188, 190, 191, 193, 194, 195, 197, 198, 200, 201, 202, 204, 205, 207, 208, 209, 211, 212, 214, 215, 216, 218, 219, 221, 222, 223, 224, 225, 226, 227, 237, 239, 240, 242, 243, 244, 246, 247, 249, 250, 251, 253, 254, 256, 257, 258, 260, 261, 263, 264, 265, 267, 268, 270, 271, 272, 274, 275, 277, 278, 279, 281, 282, 284, 285, 286, 288, 289, 291, 292, 293, 295, 296, 298, 299, 300, 301, 302, 303, 304, 314, 316, 317, 319, 320, 321, 323, 324, 326, 327, 328, 330, 331, 333, 334, 335, 337, 338, 340, 341, 342, 344, 345, 347, 348, 349, 351, 352, 354, 355, 356, 358, 359, 361, 362, 363, 364, 365, 366, 367, 377, 379, 380, 382, 383, 384, 386, 387, 389, 390, 391, 393, 394, 396, 397, 398, 400, 401, 403, 404, 405, 407, 408, 410, 411, 412, 414, 415, 417, 418, 419, 420, 421, 422, 423, 426, 428, 429, 431, 432, 433, 435, 436, 438, 439, 447, 449, 450, 452, 453, 454, 456, 457, 459, 460, 461, 463, 464, 466, 467, 468, 470, 471, 473, 474, 475, 477, 478, 480, 481, 482, 483, 484, 485, 486, 496, 498, 499, 501, 502, 503, 505, 506, 508, 509, 510, 512, 513, 515, 516, 517, 519, 520, 522, 523, 524, 526, 527, 529, 530, 531, 533, 534, 536, 537, 538, 540, 541, 543, 544, 545, 547, 548, 550, 551, 552, 554, 555, 557, 558, 559, 561, 562, 564, 565, 566, 568, 569, 571, 572, 573, 574, 575, 576, 577, 587, 589, 590, 592, 593, 594, 596, 597, 599, 600, 601, 603, 604, 606, 607, 608, 610, 611, 613, 614, 615, 617, 618, 620, 621, 622, 624, 625, 627, 628, 629, 631, 632, 634, 635, 636, 638, 639, 641, 642, 643, 644, 645, 646, 647, 650, 657, 658, 660, 661, 663, 664, 665, 667, 668, 670, 671, 672, 674, 675, 677, 678, 679, 681, 682, 684, 685, 686, 688, 689, 691, 692, 693, 695, 696, 698, 699, 700, 702, 703, 705, 706, 707, 709, 710, 712, 713, 714, 716, 717, 719, 720, 721, 723, 724, 726, 727, 728, 730, 731, 733, 734, 735, 737, 738, 740, 741, 742, 744, 745, 747, 748, 749, 750, 751, 754, 757, 758, 759, 761, 762, 764, 765, 766, 768, 769, 771, 772, 773, 775, 776, 778, 779, 780, 782, 783, 785, 786, 787, 789, 790, 792, 793, 794, 796, 797, 799, 800]
theorem asK_eq (P : Params) : asK = (hd.heap_1 P).map (·.1) := by kernel_rfl
theorem hk (w : World) (g : Nat → Obj) (os : OsState) : (hd.heap_1 w.params).map (fun p => (Nat.blt p.1 801, (SS 801 1261 (LF w.params) g os).tree.get p.1, alive p.2)) = (hd.heap_1 w.params).map (fun p => (true, some p.2, some p.2)) := by kernel_rfl
theorem hook (w : World) (g : Nat → Obj) (os : OsState) : Hook.obs (kHook hd.heap_1 asK asK_eq) (SF w g os) = Hook.val (kHook hd.heap_1 asK asK_eq) w := by
  show asK.map (SF w g os).heap.get? = (hd.heap_1 w.params).map fun p => some p.2
  rw [asK_eq w.params]
  exact hook_of (hk w g os)
theorem left_gen {q p : Program} {loose mods : List Str} {Xt : Shared → Bool} {α : Type} {Yf : Shared → α} {ya : α} {w : World} {N n₀ : Nat} {ann : Option Value} {o : Option Shared} {h0 : Heap} {gs : Array GenState} {dr : Drawn} {tk : Nat}
    (hm : mods = importedModules p.main.body) (hb : o.map (fun s => (s.heap, s.gens, s.drawn, s.toks)) = some (h0, gs, dr, tk)) (z : (h0.isNs mainGlobals && gs.size == 0, h0.objs.size, h0.nsMap mainGlobals "__annotations__") = (true, n₀, ann))
    (key : ∀ os, ∃ s1, topRun treeTable p w n₀ ann N ⟨h0, gs, dr, tk, os⟩ (topStub p) = some s1 ∧ (staticsOk mods h0 s1.heap && namesBound p s1.heap && gensDone s1 && laidKept h0 s1.heap) = true ∧ openSeen q loose mods Xt true s1 = openGood q loose ∧ Yf s1 = ya) :
    (o.bind (topFrom treeTable p w N)).map (fun s => (openSeen q loose mods Xt true s, Yf s)) = some (openGood q loose, ya) := by
  subst hm
  obtain ⟨s0, h, e0⟩ := Option.map_eq_some_iff.mp hb
  obtain ⟨hp, g, d, k, os⟩ := s0
  simp only [Prod.mk.injEq] at e0 z
  obtain ⟨rfl, rfl, rfl, rfl⟩ := e0
  obtain ⟨z1, z2, z3⟩ := z
  obtain ⟨s1, a, b, c, e⟩ := key os
  rw [h, Option.bind_some]
  unfold topFrom
  simp only [z1, z2, z3, a, b, Option.bind_some, Option.map_some, c, e]
theorem boot_pg (w : World) : (fencedOpening treeTable pg w 11496).map (fun s => (s.heap, s.gens, s.drawn, s.toks)) = some (boot_heap w.params, Array.mk [], boot_drawn, boot_toks) :=
  boot_open (p := pg) (N := 11496) (by kernel_rfl) (by decide +kernel) (fun s => by kernel_rfl) w
theorem ns_ok (w : World) : ((boot_heap w.params).isNs mainGlobals && (Array.mk [] : Array GenState).size == 0, (boot_heap w.params).objs.size, (boot_heap w.params).nsMap mainGlobals "__annotations__") = (true, 11, some (.ref 6)) := by kernel_rfl
theorem left : LeftO pg vw lo Xt (Hook.obs (kHook hd.heap_1 asK asK_eq)) (Hook.val (kHook hd.heap_1 asK asK_eq)) 11496 := fun w =>
  left_gen rfl (boot_pg w) (ns_ok w) fun os =>
    let ⟨g, r⟩ := run_all w os
    ⟨_, r, by rw [lk1, lk2, lk3, lk4]; rfl, seen_all w g os, hook w g os⟩
theorem se1 : namesResolve pg = true := (congrFun PySem.W.Fast.te8377067652309620493 _).trans (by kernel_rfl)
theorem se2 : (pg.boundNames.all (fun n => !worldNames.contains n)) = true := by kernel_rfl
theorem se3 : noRoadLSs { strict := !(importedModules pg.main.body).all cThrough.contains, foot := none, bare := (["vars", "dir", "locals"] : List Str).filter (readsOut pg pg.main.body) } pg.main.body = true := by kernel_rfl
theorem se4 : (namesMeet pg pg.main.body fun _ n => attrL n) = true := by kernel_rfl
theorem sd1 : looksOpen pg = true := by
  delta looksOpen
  rw [se1, se2, se3, se4]
  kernel_rfl
theorem sd2 : PySem.Challenge.rw_ok0067_01.row.partSaid = true := by
  delta OpenRow.partSaid
  rw [sd1]
  kernel_rfl
theorem sd3 : PySem.Challenge.rw_ok0067_01.row.wellSaid = true := by
  delta OpenRow.wellSaid
  rw [sd2]
  kernel_rfl
theorem said0 : PySem.Challenge.rw_ok0067_01.wellSaid = true := by
  delta OpenLaw.wellSaid
  rw [sd3]
  kernel_rfl
local macro_rules | `(tactic| walk_at $s:str) => `(tactic| k_extra $s)
local macro_rules | `(tactic| walk_at "pyIter ref") => `(tactic| k_extra "my pyIter")
local macro_rules | `(tactic| k_room) => `(tactic| k_extra "k_room")
local macro_rules | `(tactic| k_mem) => `(tactic| k_extra "k_mem")
local macro_rules | `(tactic| k_ne) => `(tactic| k_extra "k_ne")
local macro_rules | `(tactic| k_get) => `(tactic| k_extra "k_get")
local macro_rules | `(tactic| k_upd) => `(tactic| k_extra "k_upd")
local macro_rules | `(tactic| k_updF) => `(tactic| k_extra "k_updF")
theorem words0 : True := by
  k_with_none
  trivial
section
section
variable {prog : Program} {w : World} {A : Around} {E : Value → Shared → Prop} {s : Shared} {K : Frag} {L f : Addr} {h₀ : Heap} {m mg mb : Str → Option Value}
  {news : List (Addr × Obj)} {p : Program} {loose : List Str} {R : Result → Shared → Prop}
  {name qual : Str} {params : Arguments} {body : List Stmt} {scope : Scope} {dV kV doc pm cdv ct oc : Value} {an od : Option Addr} {osl : Array (Option Value)} {args : Args} {binds : List (Str × Value)}
/-- what a call leaves: its own frame and ledger; the caller's frame, the ledger seen from the caller, and all that was not on the small ledger as it stood -/
def Back (h₀ : Heap) (L : Addr) (m : Str → Option Value) (hs : Heap) (small : List (Addr × Obj)) (g : Heap) (R : Result → Shared → Prop) (v : Value) (s' : Shared) : Prop :=
  ∃ L' m' small', Fr g L' s'.heap m' ∧ News g L' s'.heap small' ∧
    (Fr h₀ L s'.heap m → News h₀ L s'.heap small' → (∀ a o, (∀ p ∈ small, p.1 ≠ a) → hs.get? a = some o → s'.heap.get? a = some o) → R (.ok (.ret v)) s')
theorem code_foot (F : Fr h₀ L s.heap m) (X₀ : K.In h₀) (T : TopRead p loose mg mb h₀)
    (ho : K.lookup f = some ⟨oc, od, .func (fnOf name qual params body scope dV kV doc pm an cdv ct), osl⟩) (hcd : codeIn K cdv qual = true) (hroom : A.depth < recursionLimit)
    (hbind : BindsTo s (fnOf name qual params body scope dV kV doc pm an cdv ct) args binds) (hloc : ∀ y ∈ binds, scope.names.lookup y.1 = some .local)
    (small : List (Addr × Obj)) (N : News h₀ L s.heap small)
    (h : ∀ g L' h₁, Fr g L' h₁ (fun y => binds.reverse.lookup y) → News g L' h₁ small → K.In g → TopRead p loose mg mb g → (∀ p ∈ small, p.1 < L') → (∀ a ob, (∀ p ∈ small, p.1 ≠ a) → s.heap.get? a = some ob → g.get? a = some ob) →
      wpAny (model prog w) (A.deeper (envOf qual scope L' f cdv)) (execs body (envOf qual scope L' f cdv))
        (fun fl s' => Back h₀ L m s.heap small g R (match fl with | .ret v => v | _ => .none) s') (fun _ _ => False)
        { s with heap := h₁, toks := s.toks + binds.length })
    (hco : scope.isCoroutine = false) (hgen : scope.isGenerator = false) (hk : scope.kind = .function)
    (hcell : ∀ x ∈ scope.names, x.2 ≠ .cell) : codeAny (model prog w) A (.call (.ref f) args) R s := by
  have X := X₀.keeps F.keep
  refine codeAny_call_def (fd := fnOf name qual params body scope dV kV doc pm an cdv ct) (body := body) (binds := binds) hroom (X _ _ ho) rfl (T.nolimit.keeps F.keep) (codeRec_of X hcd) rfl hbind hcell hloc (fun h₁ hns hk₁ => ?_) hco hgen hk
  have nm : ∀ b o, h₀.get? b = some o → b ∉ small.map Prod.fst := fun b o e q => by
    obtain ⟨p, hp, rfl⟩ := List.mem_map.mp q
    rw [(N p hp).2.2] at e; cases e
  have st : h₀.StaysIn (hideAll s.heap (small.map Prod.fst)) := fun b o e => hideAll_get _ (F.keep b o e) (nm b o e)
  obtain ⟨oL, es, ep, hL, hLd, hLk, hLf⟩ := F.ns
  have nL : L ∉ small.map Prod.fst := fun q => by
    obtain ⟨p, hp, e⟩ := List.mem_map.mp q
    exact (N p hp).2.1 e
  have hLg := hideAll_get (small.map Prod.fst) hL nL
  refine wpAny_mono (h (hideAll s.heap (small.map Prod.fst)) s.heap.objs.size h₁ ⟨hns, fun b o e => hk₁ b o (of_hideAll _ e), Nat.le_of_eq (hideAll_size _ _)⟩
    (fun p hp => ⟨hk₁ _ _ (N p hp).1, Nat.ne_of_lt (Heap.lt_size (N p hp).1), hideAll_none _ (List.mem_map_of_mem hp)⟩) (X₀.keeps st) (T.keeps st) (fun p hp => Heap.lt_size (N p hp).1) (fun a ob q e => hideAll_get _ e fun z => by
    obtain ⟨p, hp, rfl⟩ := List.mem_map.mp z
    exact q p hp rfl)) (fun fl s' hl => ?_) (fun _ _ y => y.elim)
  obtain ⟨L', m', small', F', N', k⟩ := hl
  have kp : ∀ a o, (∀ p ∈ small, p.1 ≠ a) → s.heap.get? a = some o → s'.heap.get? a = some o := fun a o q e => F'.keep a o (hideAll_get _ e fun z => by
    obtain ⟨p, hp, rfl⟩ := List.mem_map.mp z
    exact q p hp rfl)
  refine k ⟨⟨oL, es, ep, F'.keep L oL hLg, hLd, hLk, hLf⟩, fun b o e => F'.keep b o (st b o e), F.above⟩ (fun p hp => ⟨(N' p hp).1, fun q => ?_, ?_⟩) kp
  · have := (N' p hp).2.2; rw [q, hLg] at this; cases this
  · cases q : h₀.get? p.1 with
    | none => rfl
    | some o => have := (N' p hp).2.2; rw [st _ _ q] at this; cases this
/-- a call walked where it stands, no exception in sight -/
theorem code_inl (F : Fr h₀ L s.heap m) (X₀ : K.In h₀) (N : News h₀ L s.heap news) (T : TopRead p loose mg mb h₀)
    (ho : K.lookup f = some ⟨oc, od, .func (fnOf name qual params body scope dV kV doc pm an cdv ct), osl⟩) (hcd : codeIn K cdv qual = true) (hroom : A.depth < recursionLimit)
    (hbind : BindsTo s (fnOf name qual params body scope dV kV doc pm an cdv ct) args binds) (hloc : ∀ y ∈ binds, scope.names.lookup y.1 = some .local)
    (h : ∀ g L' h₁, Fr h₀ L g m → Fr g L' h₁ (fun y => binds.reverse.lookup y) → News g L' h₁ news → K.In g → TopRead p loose mg mb g →
      wpAny (model prog w) (A.deeper (envOf qual scope L' f cdv)) (execs body (envOf qual scope L' f cdv))
        (fun fl s' => LeaveK h₀ L m g R (match fl with | .ret v => v | _ => .none) s') (fun _ _ => False)
        { s with heap := h₁, toks := s.toks + binds.length })
    (hco : scope.isCoroutine = false) (hgen : scope.isGenerator = false) (hk : scope.kind = .function)
    (hcell : ∀ x ∈ scope.names, x.2 ≠ .cell) : codeAny (model prog w) A (.call (.ref f) args) R s := by
  have X := X₀.keeps F.keep
  refine codeAny_call_def (fd := fnOf name qual params body scope dV kV doc pm an cdv ct) (body := body) (binds := binds) hroom (X _ _ ho) rfl (T.nolimit.keeps F.keep) (codeRec_of X hcd) rfl hbind hcell hloc (fun h₁ hns hk₁ => ?_) hco hgen hk
  have nm : ∀ b o, h₀.get? b = some o → b ∉ news.map Prod.fst := fun b o e q => by
    obtain ⟨p, hp, rfl⟩ := List.mem_map.mp q
    rw [(N p hp).2.2] at e; cases e
  have st : h₀.StaysIn (hideAll s.heap (news.map Prod.fst)) := fun b o e => hideAll_get _ (F.keep b o e) (nm b o e)
  obtain ⟨oL, es, ep, hL, hLd, hLk, hLf⟩ := F.ns
  have nL : L ∉ news.map Prod.fst := fun q => by
    obtain ⟨p, hp, e⟩ := List.mem_map.mp q
    exact (N p hp).2.1 e
  have hLg := hideAll_get (news.map Prod.fst) hL nL
  refine wpAny_mono (h (hideAll s.heap (news.map Prod.fst)) s.heap.objs.size h₁ ⟨⟨oL, es, ep, hLg, hLd, hLk, hLf⟩, st, F.above⟩ ⟨hns, fun b o e => hk₁ b o (of_hideAll _ e), Nat.le_of_eq (hideAll_size _ _)⟩
    (fun p hp => ⟨hk₁ _ _ (N p hp).1, Nat.ne_of_lt (Heap.lt_size (N p hp).1), hideAll_none _ (List.mem_map_of_mem hp)⟩) (X₀.keeps st) (T.keeps st)) (fun fl s' hl => ?_) (fun _ _ y => y.elim)
  obtain ⟨L', m', small', F', N', k⟩ := hl
  refine k ⟨⟨oL, es, ep, F'.keep L oL hLg, hLd, hLk, hLf⟩, fun b o e => F'.keep b o (st b o e), F.above⟩ (fun p hp => ⟨(N' p hp).1, fun q => ?_, ?_⟩)
  · have := (N' p hp).2.2; rw [q, hLg] at this; cases this
  · cases q : h₀.get? p.1 with
    | none => rfl
    | some o => have := (N' p hp).2.2; rw [st _ _ q] at this; cases this
/-- the ledger stands where nothing on the small one was turned -/
theorem news_same {h' : Heap} {small small' : List (Addr × Obj)} (N : News h₀ L s.heap news) (hs : ∀ p ∈ small, p ∈ news) (N' : News h₀ L h' small') (hss : ∀ p ∈ small, p ∈ small')
    (k : ∀ a o, (∀ p ∈ small, p.1 ≠ a) → s.heap.get? a = some o → h'.get? a = some o) : News h₀ L h' news := fun q hq => by
  refine ⟨?_, (N q hq).2⟩
  by_cases c : ∃ p ∈ small, p.1 = q.1
  · obtain ⟨p, hp, e⟩ := c
    have h1 := (N p (hs p hp)).1
    rw [e, (N q hq).1] at h1
    have h2 := (N' p (hss p hp)).1
    rw [e] at h2
    rw [h2]; exact h1.symm
  · exact k _ _ (fun p hp e => c ⟨p, hp, e⟩) (N q hq).1
theorem news_sub {h : Heap} {l l' : List (Addr × Obj)} (N : News h₀ L h l) (hs : ∀ p ∈ l', p ∈ l) : News h₀ L h l' := fun p hp => N p (hs p hp)
end
end
section
abbrev ent (P : Params) (n : PySem.Str) (t : Tok) (v : Value) : DictEntry := ⟨PyData.keyHash P n, .str n t, v⟩
abbrev worldO (P : Params) (t1 t2 t3 t4 t5 t6 t7 : Tok) (ob ce va ba : Addr) (cur : Value) (lm : Int) (lt : Tok) : Obj :=
  dictOf [ent P "obarray" t1 (.ref ob), ent P "cells" t2 (.ref ce), ent P "variables" t3 (.ref va), ent P "bare" t4 (.ref ba), ent P "current" t5 cur, ent P "machine" t6 .none, ent P "last_marker" t7 (.int lm lt)] 7
abbrev obO (P : Params) (t1 t2 : Tok) (rw nm : Addr) : Obj := dictOf [ent P "rows" t1 (.ref rw), ent P "names" t2 (.ref nm)] 2
abbrev cellsO (P : Params) (t1 t2 : Tok) (fn pl : Addr) : Obj := dictOf [ent P "functions" t1 (.ref fn), ent P "plists" t2 (.ref pl)] 2
abbrev varsO (P : Params) (t1 t2 t3 : Tok) (d a p : Addr) : Obj := dictOf [ent P "defaults" t1 (.ref d), ent P "automatic" t2 (.ref a), ent P "permanent" t3 (.ref p)] 3
abbrev locO (P : Params) (t1 : Tok) (v : Addr) : Obj := dictOf [ent P "values" t1 (.ref v)] 1
abbrev symO (P : Params) (t1 t2 : Tok) (num : Int) (tn : Tok) (name : PySem.Str) (tm : Tok) : Obj := dictOf [ent P "number" t1 (.int num tn), ent P "name" t2 (.str name tm)] 2
section
variable {prog : Program} {w : World} {A : Around} {E : Value → Shared → Prop} {s s' : Shared} {L L' : Addr} {h₀ g hs : Heap} {m m' : Str → Option Value}
  {news small small' : List (Addr × Obj)} {R : Result → Shared → Prop} {v : Value}
theorem back_same (F' : Fr g L' s'.heap m') (N' : News g L' s'.heap small') (hss : ∀ p ∈ small, p ∈ small') (N : News h₀ L s.heap news) (hs : ∀ p ∈ small, p ∈ news)
    (k : Fr h₀ L s'.heap m → News h₀ L s'.heap news → R (.ok (.ret v)) s') : Back h₀ L m s.heap small g R v s' :=
  ⟨L', m', small', F', N', fun F Ns kp => k F (news_same N hs Ns hss kp)⟩
end
theorem words1 : True := by
  k_with "my_enter" => ((refine wpAny_call ?_; refine' code_foot ?q0k1 ?q0k2 ?q0k3 ?q0k4 ?q0k5 ?q0k6 ?q0k7 ?q0k8 _ ?q0kN ?_ ?q0c2 ?q0c3 ?q0c4 ?q0c5; (case q0k1 => k_asm); (case q0k2 => k_asm); (case q0k3 => k_asm); (case q0k4 => k_is); (case q0k5 => k_is); (case q0k6 => omega); (case q0k7 => first | exact BindsTo.of_eq rfl | exact binds_K (by k_in) rfl (by k_is) rfl rfl rfl); (case q0k8 => exact locs rfl); (case q0kN => assumption); (case q0c2 => exact rfl); (case q0c3 => exact rfl); (case q0c4 => exact rfl); (case q0c5 => decide); (intro z9g' z9L' z9h' z9F' z9N' z9X' z9T' z9l1 z9hgk); (try k_lt z9l1); dsimp only; (show wpAny _ _ _ _ _ _); k_fold))
  k_with "k_room" => (((try simp only [depth_under_make, depth_under_kw, depth_in1, depth_deeper]); omega))
  k_with "k_mem" => (assumption)
  k_with "call builtin:dict.get" => ((k_here; k_dflt (first
  | refine kdg_get1 (knd := PySem.strKind _ _) (by k_asm) (by k_mem) (by k_asm) (by k_asm) (strKind_is _ _ _ _) _ (by rfl) ?_
  | refine kdg_get2 (knd := PySem.strKind _ _) (by k_asm) (by k_mem) (by k_asm) (by k_asm) (strKind_is _ _ _ _) _ (by rfl) ?_
  | refine kdg_get1 (knd := PySem.intKind _ _) (by k_asm) (by k_mem) (by k_asm) (by k_asm) (intKind_is _ _ _ _) _ (by rfl) ?_
  | refine kdg_get2 (knd := PySem.intKind _ _) (by k_asm) (by k_mem) (by k_asm) (by k_asm) (intKind_is _ _ _ _) _ (by rfl) ?_)))
  k_with "getMethod ref" => ((k_here; (with_reducible show wpAny _ _ (getMethod (Value.ref _) (Str.ofString "get") _) _ _ _); k_dflt (first
  | refine kdg_method (knd := PySem.strKind _ _) (by k_asm) (by k_mem) (by k_asm) ?_
  | refine kdg_method (knd := PySem.intKind _ _) (by k_asm) (by k_mem) (by k_asm) ?_)))
  k_with "compareOp In int ref" => ((k_here; k_dflt (refine kda_in (knd := PySem.intKind _ _) (by k_asm) (by k_mem) (by k_asm) (by k_asm) (intKind_is _ _ _ _) _ (by rfl) ?_)))
  k_with "compareOp In str ref" => ((k_here; k_dflt (refine kda_in (knd := PySem.strKind _ _) (by k_asm) (by k_mem) (by k_asm) (by k_asm) (strKind_is _ _ _ _) _ (by rfl) ?_)))
  k_with "compareOp NotIn int ref" => ((k_here; k_dflt (refine kdg_notin (knd := PySem.intKind _ _) (by k_asm) (by k_mem) (by k_asm) (by k_asm) (intKind_is _ _ _ _) _ (by rfl) ?_)))
  k_with "compareOp NotIn str ref" => ((k_here; k_dflt (refine kdg_notin (knd := PySem.strKind _ _) (by k_asm) (by k_mem) (by k_asm) (by k_asm) (strKind_is _ _ _ _) _ (by rfl) ?_)))
  trivial
section
variable {w : World} {A : Around} {E : Value → Shared → Prop} {s : Shared} {L : Addr} {h₀ : Heap} {m mg mb : Str → Option Value}
  {news : List (Addr × Obj)} {p : Program} {loose : List Str}
theorem is_local_c {v dv d : Addr} {t1 t : Tok} {o : Obj} {kvs : List (Int × Value)} {k : Int} {Q : Value → Shared → Prop}
   (F : Fr h₀ L s.heap m) (N : News h₀ L s.heap news) (X : (hd.heap_1 w.params).In h₀) (T : TopRead p loose mg mb h₀) (hr : A.depth + 1 < recursionLimit)
   (m1 : (v, instObj 421 dv) ∈ news) (m2 : (dv, locO w.params t1 d) ∈ news) (m3 : (d, o) ∈ news) (lo : (d == sysModules) = false) (hd' : o.IsDictOf (PySem.intKind PySem.Challenge.rw_ok0067_01.row.prog w) kvs)
   (h : ∀ h' tk', Fr h₀ L h' m → News h₀ L h' news → Q (.bool (valueAt kvs k).isSome) { s with heap := h', toks := tk' }) :
   wpAny (model PySem.Challenge.rw_ok0067_01.row.prog w) A (call (.ref 390) [.ref v, .int k t]) Q E s := by
  have hs : ∀ p ∈ [(v, instObj 421 dv), (dv, locO w.params t1 d), (d, o)], p ∈ news := by simp [m1, m2, m3]
  have N1 := news_sub N hs
  k_extra "my_enter"
  k_steps
  refine back_same (by assumption) (by assumption) (fun _ h => h) N hs ?_
  intro F N
  exact h _ _ F N
theorem default_value_c {v dv d a pe : Addr} {t1 t2 t3 t : Tok} {o : Obj} {kvs : List (Int × Value)} {k : Int} {Q : Value → Shared → Prop}
   (F : Fr h₀ L s.heap m) (N : News h₀ L s.heap news) (X : (hd.heap_1 w.params).In h₀) (T : TopRead p loose mg mb h₀) (hr : A.depth + 1 < recursionLimit)
   (m1 : (v, instObj 365 dv) ∈ news) (m2 : (dv, varsO w.params t1 t2 t3 d a pe) ∈ news) (m3 : (d, o) ∈ news) (lo : (d == sysModules) = false) (hd' : o.IsDictOf (PySem.intKind PySem.Challenge.rw_ok0067_01.row.prog w) kvs)
   (h : ∀ h' tk', Fr h₀ L h' m → News h₀ L h' news → Q ((valueAt kvs k).getD .none) { s with heap := h', toks := tk' }) :
   wpAny (model PySem.Challenge.rw_ok0067_01.row.prog w) A (call (.ref 327) [.ref v, .int k t]) Q E s := by
  have hs : ∀ p ∈ [(v, instObj 365 dv), (dv, varsO w.params t1 t2 t3 d a pe), (d, o)], p ∈ news := by simp [m1, m2, m3]
  have N1 := news_sub N hs
  k_extra "my_enter"
  k_steps
  refine back_same (by assumption) (by assumption) (fun _ h => h) N hs ?_
  intro F N
  exact h _ _ F N
end
end
theorem words2 : True := by
  k_with_none
  trivial
section
def NdGoal (l : List Addr) (a b : Addr) : Prop := l.Nodup → a ≠ b
theorem nd_start {l : List Addr} {a b : Addr} (h : l.Nodup) (k : NdGoal l a b) : a ≠ b := k h
theorem NdGoal.left {r : List Addr} {a b : Addr} (h : b ∈ r) : NdGoal (a :: r) a b := fun n e => (List.nodup_cons.mp n).1 (e ▸ h)
theorem NdGoal.right {r : List Addr} {a b : Addr} (h : a ∈ r) : NdGoal (b :: r) a b := fun n e => (List.nodup_cons.mp n).1 (e ▸ h)
theorem NdGoal.tail {r : List Addr} {c a b : Addr} (k : NdGoal r a b) : NdGoal (c :: r) a b := fun n => k (List.nodup_cons.mp n).2
section
variable {prog : Program} {w : World} {A : Around} {E : Value → Shared → Prop} {s s' : Shared} {L L' d : Addr} {h₀ g hs : Heap} {m m' : Str → Option Value} {o' : Obj}
  {news small small' : List (Addr × Obj)} {R : Result → Shared → Prop} {v : Value}
/-- all but the object at d stands as it stood -/
def But (h h' : Heap) (d : Addr) : Prop := ∀ a ob, a ≠ d → h.get? a = some ob → h'.get? a = some ob
theorem back_but (N : News h₀ L s.heap small) (F' : Fr g L' s'.heap m') (N' : News g L' s'.heap small') (hd : (d, o') ∈ small') (hss : ∀ p ∈ small, p.1 ≠ d → p ∈ small')
    (k : Fr h₀ L s'.heap m → s'.heap.get? d = some o' → But s.heap s'.heap d → R (.ok (.ret v)) s') : Back h₀ L m s.heap small g R v s' :=
  ⟨L', m', small', F', N', fun F Ns kp => k F (Ns _ hd).1 fun a ob ha e => by
    by_cases c : ∃ p ∈ small, p.1 = a
    · obtain ⟨q, hq, rfl⟩ := c
      have h1 := (N q hq).1
      rw [e] at h1
      rw [(Ns _ (hss q hq ha)).1]; exact h1.symm
    · exact kp a ob (fun q hq e' => c ⟨q, hq, e'⟩) e⟩
end
/-- one object of the list is another one now -/
inductive Chg (d : Addr) (o' : Obj) : List (Addr × Obj) → List (Addr × Obj) → Prop
  | head {o r} : Chg d o' ((d, o) :: r) ((d, o') :: r)
  | tail {p r r'} : Chg d o' r r' → Chg d o' (p :: r) (p :: r')
theorem Chg.keys {d : Addr} {o' : Obj} {l l' : List (Addr × Obj)} (C : Chg d o' l l') : l'.map Prod.fst = l.map Prod.fst := by
  induction C with
  | head => rfl
  | tail _ ih => simp only [List.map_cons, ih]
theorem Chg.mem {d : Addr} {o' : Obj} {l l' : List (Addr × Obj)} (C : Chg d o' l l') : (l.map Prod.fst).Nodup → ∀ p ∈ l', (p = (d, o')) ∨ (p.1 ≠ d ∧ p ∈ l) := by
  induction C with
  | head =>
    intro n p hp
    rcases List.mem_cons.mp hp with rfl | hp
    · exact .inl rfl
    · refine .inr ⟨fun e => (List.nodup_cons.mp n).1 (List.mem_map.mpr ⟨p, hp, e⟩), List.mem_cons_of_mem _ hp⟩
  | tail c ih =>
    intro n p hp
    rcases List.mem_cons.mp hp with rfl | hp
    · by_cases e : p.1 = d
      · exfalso
        refine (List.nodup_cons.mp n).1 ?_
        rw [e, ← c.keys]
        clear ih hp n
        induction c with
        | head => exact List.mem_cons_self ..
        | tail _ ih => exact List.mem_cons_of_mem _ ih
      · exact .inr ⟨e, List.mem_cons_self ..⟩
    · rcases ih (List.nodup_cons.mp n).2 p hp with h | ⟨h1, h2⟩
      · exact .inl h
      · exact .inr ⟨h1, List.mem_cons_of_mem _ h2⟩
theorem Chg.has {d : Addr} {o' : Obj} {l l' : List (Addr × Obj)} (C : Chg d o' l l') : ∃ o, (d, o) ∈ l := by
  induction C with
  | head => exact ⟨_, List.mem_cons_self ..⟩
  | tail _ ih => obtain ⟨o, ho⟩ := ih; exact ⟨o, List.mem_cons_of_mem _ ho⟩
theorem chg_news {h₀ h h' : Heap} {L d : Addr} {o' : Obj} {l l' news : List (Addr × Obj)} (ND : (l.map Prod.fst).Nodup) (N : News h₀ L h news) (hs : ∀ p ∈ l, p ∈ news) (B : But h h' d) (ho : h'.get? d = some o') (C : Chg d o' l l') :
    News h₀ L h' l' ∧ (l'.map Prod.fst).Nodup := by
  refine ⟨fun p hp => ?_, C.keys ▸ ND⟩
  rcases C.mem ND p hp with rfl | ⟨h1, h2⟩
  · obtain ⟨o, hm⟩ := C.has
    exact ⟨ho, (N _ (hs _ hm)).2⟩
  · exact ⟨B _ _ h1 (N _ (hs _ h2)).1, (N _ (hs _ h2)).2⟩
section
variable {prog : Program} {w : World} {K : Type} [DecidableEq K] {knd : KeyKind prog w K} {A : Around} {E : Value → Shared → Prop} {s : Shared} {h₀ : Heap} {L d : Addr} {m : Str → Option Value} {news : List (Addr × Obj)} {g : Obj → List (Addr × Obj)} {o : Obj} {kvs : List (K × Value)} {k : K} {key v dflt : Value}
theorem valueAt_none_iff : valueAt kvs k = none ↔ k ∉ kvs.map (·.1) := by
  simp only [valueAt, Option.map_eq_none_iff, List.find?_eq_none, decide_eq_true_eq, List.mem_map, not_exists, not_and]
theorem without_none (h : valueAt kvs k = none) : without kvs k = kvs := without_of_not_mem kvs k (valueAt_none_iff.mp h)
theorem my_pop1 {Q : Value → Shared → Prop} (F : Fr h₀ L s.heap m) (N : News h₀ L s.heap news) (U : UpdF d o news g) (hd : o.IsDictOf knd kvs) (hkey : knd.is k key = true)
    (hpart : (keyPart key).isSome = true) (hl : (valueAt kvs k).isSome = true) (hsz : kvs.length ≤ sizeLine)
    (h : ∀ h' o' v, Fr h₀ L h' m → News h₀ L h' (g o') → o'.IsDictOf knd (without kvs k) → Q v { s with heap := h', toks := s.toks + 1 }) :
    wpAny (model prog w) A (call (.builtin "dict.pop") [.ref d, key]) Q E s := by
  obtain ⟨v, hv⟩ := Option.isSome_iff_exists.mp hl
  exact kob_pop (more := []) F N U hd hkey (.inl rfl) hpart (PySem.F.args_dict_pop_2 _ _) hv hsz fun h' o' => h h' o' v
theorem my_pop2 {Q : Value → Shared → Prop} (F : Fr h₀ L s.heap m) (N : News h₀ L s.heap news) (U : UpdF d o news g) (hd : o.IsDictOf knd kvs) (lo : (d == sysModules) = false) (hkey : knd.is k key = true)
    (hpart : (keyPart key).isSome = true) (hsz : kvs.length ≤ sizeLine)
    (h : ∀ h' o' v tk', Fr h₀ L h' m → News h₀ L h' (g o') → o'.IsDictOf knd (without kvs k) → Q v { s with heap := h', toks := tk' }) :
    wpAny (model prog w) A (call (.builtin "dict.pop") [.ref d, key, dflt]) Q E s := by
  cases hv : valueAt kvs k with
  | some v => exact kob_pop (more := [dflt]) F N U hd hkey (.inr ⟨_, rfl⟩) hpart (PySem.F.args_dict_pop_3 _ _ _) hv hsz fun h' o' => h h' o' v _
  | none =>
    obtain ⟨pre, post, e, hg, a, b⟩ := U.split
    have hm : (d, o) ∈ news := e ▸ List.mem_append_right _ (.head _)
    have hD : s.heap.DictOf knd d kvs := kda_dict N hm hd
    refine call_meetsIn PySem.F.slot_dict_pop hD.typeIs PySem.F.entry_dict_pop (PySem.F.args_dict_pop_3 _ _ _) (meets_dict_pop_default knd d hkey lo hpart dflt) ⟨kvs, hD, hv, ?_⟩
    exact h s.heap o dflt _ F (by rw [hg, ← e]; exact N) (by rw [without_none hv]; exact hd)
end
section
variable {prog : Program} {w : World} {K : Type} [DecidableEq K] {knd : KeyKind prog w K} {A : Around} {E : Value → Shared → Prop} {s : Shared} {h₀ : Heap} {L d : Addr} {news : List (Addr × Obj)} {o : Obj} {kvs : List (K × Value)} {k : K} {key v : Value}
theorem my_item {Q : Value → Shared → Prop} (N : News h₀ L s.heap news) (hp : (d, o) ∈ news) (hd : o.IsDictOf knd kvs) (hkey : knd.is k key = true) (hl : valueAt kvs k = some v) (h : Q v { s with toks := s.toks + 1 }) :
    wpAny (model prog w) A (getItem (.ref d) key) Q E s := wpAny_getItem_of hkey (kda_dict N hp hd).mapOf hl h
end
theorem words3 : True := by
  k_with "my_enter" => ((refine wpAny_call ?_; refine' code_foot ?q0k1 ?q0k2 ?q0k3 ?q0k4 ?q0k5 ?q0k6 ?q0k7 ?q0k8 _ ?q0kN ?_ ?q0c2 ?q0c3 ?q0c4 ?q0c5; (case q0k1 => k_asm); (case q0k2 => k_asm); (case q0k3 => k_asm); (case q0k4 => k_is); (case q0k5 => k_is); (case q0k6 => omega); (case q0k7 => first | exact BindsTo.of_eq rfl | exact binds_K (by k_in) rfl (by k_is) rfl rfl rfl); (case q0k8 => exact locs rfl); (case q0kN => assumption); (case q0c2 => exact rfl); (case q0c3 => exact rfl); (case q0c4 => exact rfl); (case q0c5 => decide); (intro z9g' z9L' z9h' z9F' z9N' z9X' z9T' z9l1 z9hgk); (try k_lt z9l1); dsimp only; (show wpAny _ _ _ _ _ _); k_fold))
  k_with "k_room" => (((try simp only [depth_under_make, depth_under_kw, depth_in1, depth_deeper]); omega))
  k_with "call builtin:dict.get" => ((k_here; k_dflt (first
  | refine kdg_get1 (knd := PySem.strKind _ _) (by k_asm) (by k_mem) (by k_asm) (by k_asm) (strKind_is _ _ _ _) _ (by first | k_asm | rfl) ?_
  | refine kdg_get2 (knd := PySem.strKind _ _) (by k_asm) (by k_mem) (by k_asm) (by k_asm) (strKind_is _ _ _ _) _ (by first | k_asm | rfl) ?_
  | refine kdg_get1 (knd := PySem.intKind _ _) (by k_asm) (by k_mem) (by k_asm) (by k_asm) (intKind_is _ _ _ _) _ (by first | k_asm | rfl) ?_
  | refine kdg_get2 (knd := PySem.intKind _ _) (by k_asm) (by k_mem) (by k_asm) (by k_asm) (intKind_is _ _ _ _) _ (by first | k_asm | rfl) ?_); (try dsimp only [Option.getD_some, Option.getD_none])))
  k_with "getMethod ref" => ((k_here; (with_reducible show wpAny _ _ (getMethod (Value.ref _) (Str.ofString "get") _) _ _ _); k_dflt (first
  | refine kdg_method (knd := PySem.strKind _ _) (by k_asm) (by k_mem) (by k_asm) ?_
  | refine kdg_method (knd := PySem.intKind _ _) (by k_asm) (by k_mem) (by k_asm) ?_)))
  k_with "compareOp In int ref" => ((k_here; k_dflt (refine kda_in (knd := PySem.intKind _ _) (by k_asm) (by k_mem) (by k_asm) (by k_asm) (intKind_is _ _ _ _) _ (by rfl) ?_)))
  k_with "compareOp In str ref" => ((k_here; k_dflt (refine kda_in (knd := PySem.strKind _ _) (by k_asm) (by k_mem) (by k_asm) (by k_asm) (strKind_is _ _ _ _) _ (by rfl) ?_)))
  k_with "compareOp NotIn int ref" => ((k_here; k_dflt (refine kdg_notin (knd := PySem.intKind _ _) (by k_asm) (by k_mem) (by k_asm) (by k_asm) (intKind_is _ _ _ _) _ (by rfl) ?_)))
  k_with "compareOp NotIn str ref" => ((k_here; k_dflt (refine kdg_notin (knd := PySem.strKind _ _) (by k_asm) (by k_mem) (by k_asm) (by k_asm) (strKind_is _ _ _ _) _ (by rfl) ?_)))
  k_with "nd1" => (first | (refine NdGoal.left ?_; k_mem) | (refine NdGoal.right ?_; k_mem) | (refine NdGoal.tail ?_; k_extra "nd1"))
  k_with "nd" => (first | assumption | exact Ne.symm (by assumption) | (refine' nd_start ?q10ND ?_; (case q10ND => assumption); k_extra "nd1"))
  k_with "k_ne" => ((refine neN ?_; (try dsimp only); k_extra "nd"))
  k_with "setItem ref int" => ((k_here; k_dflt (refine' kda_set (knd := PySem.intKind _ _) ?q12F ?q12N ?q12U ?q12d (intKind_is _ _ _ _) ?q12z ?_; (case q12F => k_asm); (case q12N => k_asm); (case q12U => k_updF); (case q12d => k_asm); (case q12z => rw [sizeLine_eq]; omega)); intro z9h' z9o' z9F' z9N' z9hd'; (try dsimp only at z9N'); (try k_sweep)))
  k_with "setItem ref str" => ((k_here; k_dflt (refine' kda_set (knd := PySem.strKind _ _) ?q13F ?q13N ?q13U ?q13d (strKind_is _ _ _ _) ?q13z ?_; (case q13F => k_asm); (case q13N => k_asm); (case q13U => k_updF); (case q13d => k_asm); (case q13z => rw [sizeLine_eq]; omega)); intro z9h' z9o' z9F' z9N' z9hd'; (try dsimp only at z9N'); (try k_sweep)))
  k_with "mem" => (first | exact List.Mem.head _ | (refine List.Mem.tail _ ?_; k_extra "mem"))
  k_with "sub_but" => ((refine' List.forall_mem_cons.mpr ⟨?q15a, ?q15b⟩; (case q15a => (intro z9hne; first | exact absurd rfl z9hne | k_extra "mem")); (case q15b => first | exact List.forall_mem_nil _ | k_extra "sub_but")))
  k_with "chg" => (first | exact Chg.head | (refine' Chg.tail ?q16c; (case q16c => k_extra "chg")))
  k_with "sub" => (first | exact (fun _ z9hp => z9hp) | (intro z9p z9hp; refine List.mem_cons_of_mem _ ?_; revert z9p; k_extra "sub"))
  k_with "call builtin:dict.pop" => ((k_here; k_dflt (first
  | (refine' my_pop1 (knd := PySem.intKind _ _) ?q18F ?q18N ?q18U ?q18d (intKind_is _ _ _ _) ?q18p ?q18l ?q18z ?_; (case q18F => k_asm); (case q18N => k_asm); (case q18U => k_updF); (case q18d => k_asm); (case q18p => rfl); (case q18l => k_asm); (case q18z => rw [sizeLine_eq]; omega); intro z9h' z9o' z9v' z9F' z9N' z9hd')
  | (refine' my_pop2 (knd := PySem.strKind _ _) ?q18F ?q18N ?q18U ?q18d ?q18lo (strKind_is _ _ _ _) ?q18p ?q18z ?_; (case q18F => k_asm); (case q18N => k_asm); (case q18U => k_updF); (case q18d => k_asm); (case q18lo => k_asm); (case q18p => rfl); (case q18z => rw [sizeLine_eq]; omega); intro z9h' z9o' z9v' z9tk' z9F' z9N' z9hd')); (try dsimp only at z9N'); (try k_sweep)))
  k_with "sub_but2" => ((refine' List.forall_mem_cons.mpr ⟨?q19a, ?q19b⟩; (case q19a => (intro z9hne z9hne2; first | exact absurd rfl z9hne | exact absurd rfl z9hne2 | k_extra "mem")); (case q19b => first | exact List.forall_mem_nil _ | k_extra "sub_but2")))
  trivial
section
theorem words4 : True := by
  k_with "k_mem" => (assumption)
  trivial
section
variable {w : World} {A : Around} {E : Value → Shared → Prop} {s : Shared} {L : Addr} {h₀ : Heap} {m mg mb : Str → Option Value}
  {news : List (Addr × Obj)} {p : Program} {loose : List Str}
theorem is_automatic_c {v dv d a pe : Addr} {t1 t2 t3 t : Tok} {o : Obj} {kvs : List (Int × Value)} {k : Int} {Q : Value → Shared → Prop}
   (F : Fr h₀ L s.heap m) (N : News h₀ L s.heap news) (X : (hd.heap_1 w.params).In h₀) (T : TopRead p loose mg mb h₀) (hr : A.depth + 1 < recursionLimit)
   (m1 : (v, instObj 365 dv) ∈ news) (m2 : (dv, varsO w.params t1 t2 t3 d a pe) ∈ news) (m3 : (a, o) ∈ news) (lo : (a == sysModules) = false) (hd' : o.IsDictOf (PySem.intKind PySem.Challenge.rw_ok0067_01.row.prog w) kvs)
   (h : ∀ h' tk', Fr h₀ L h' m → News h₀ L h' news → Q (.bool (valueAt kvs k).isSome) { s with heap := h', toks := tk' }) :
   wpAny (model PySem.Challenge.rw_ok0067_01.row.prog w) A (call (.ref 355) [.ref v, .int k t]) Q E s := by
  have hs : ∀ p ∈ [(v, instObj 365 dv), (dv, varsO w.params t1 t2 t3 d a pe), (a, o)], p ∈ news := by simp [m1, m2, m3]
  have N1 := news_sub N hs
  k_extra "my_enter"
  k_steps
  refine back_same (by assumption) (by assumption) (fun _ h => h) N hs ?_
  intro F N
  exact h _ _ F N
theorem function_of_c {v dv fn pl y dy : Addr} {t1 t2 u1 u2 u3 u4 : Tok} {o : Obj} {kvs : List (Int × Value)} {k : Int} {nm : PySem.Str} {x : Value} {Q : Value → Shared → Prop}
   (F : Fr h₀ L s.heap m) (N : News h₀ L s.heap news) (X : (hd.heap_1 w.params).In h₀) (T : TopRead p loose mg mb h₀) (hr : A.depth + 1 < recursionLimit)
   (m1 : (v, instObj 225 dv) ∈ news) (m2 : (dv, cellsO w.params t1 t2 fn pl) ∈ news) (m3 : (fn, o) ∈ news) (m4 : (y, instObj 58 dy) ∈ news) (m5 : (dy, symO w.params u1 u2 k u3 nm u4) ∈ news) (lo : (fn == sysModules) = false) (hd' : o.IsDictOf (PySem.intKind PySem.Challenge.rw_ok0067_01.row.prog w) kvs)
   (hx : (valueAt kvs k).getD (.ref 64) = x)
   (h : ∀ h' tk', Fr h₀ L h' m → News h₀ L h' news → Q x { s with heap := h', toks := tk' }) :
   wpAny (model PySem.Challenge.rw_ok0067_01.row.prog w) A (call (.ref 166) [.ref v, .ref y]) Q E s := by
  have hs : ∀ p ∈ [(v, instObj 225 dv), (dv, cellsO w.params t1 t2 fn pl), (fn, o), (y, instObj 58 dy), (dy, symO w.params u1 u2 k u3 nm u4)], p ∈ news := by simp [m1, m2, m3, m4, m5]
  have N1 := news_sub N hs
  k_extra "my_enter"
  k_steps
  refine back_same (by assumption) (by assumption) (fun _ h => h) N hs ?_
  intro F N
  subst hx
  exact h _ _ F N
theorem set_default_c {v dv d a pe : Addr} {t1 t2 t3 t : Tok} {o : Obj} {kvs : List (Int × Value)} {k : Int} {x : Value} {Q : Value → Shared → Prop}
   (F : Fr h₀ L s.heap m) (N : News h₀ L s.heap news) (X : (hd.heap_1 w.params).In h₀) (T : TopRead p loose mg mb h₀) (hr : A.depth + 1 < recursionLimit)
   (m1 : (v, instObj 365 dv) ∈ news) (m2 : (dv, varsO w.params t1 t2 t3 d a pe) ∈ news) (m3 : (d, o) ∈ news) (ND : [v, dv, d].Nodup) (hd' : o.IsDictOf (PySem.intKind PySem.Challenge.rw_ok0067_01.row.prog w) kvs)
   (hz : kvs.length ≤ 1000)
   (h : ∀ h' tk' o', Fr h₀ L h' m → h'.get? d = some o' → o'.IsDictOf (PySem.intKind PySem.Challenge.rw_ok0067_01.row.prog w) (stored kvs k x) → But s.heap h' d → Q .none { s with heap := h', toks := tk' }) :
   wpAny (model PySem.Challenge.rw_ok0067_01.row.prog w) A (call (.ref 334) [.ref v, .int k t, x]) Q E s := by
  have hs : ∀ p ∈ [(v, instObj 365 dv), (dv, varsO w.params t1 t2 t3 d a pe), (d, o)], p ∈ news := by simp [m1, m2, m3]
  have N1 := news_sub N hs
  k_extra "my_enter"
  k_steps
  rename Obj.IsDictOf _ _ (stored _ _ _) => hd2
  refine back_but (d := d) N1 (by assumption) (by assumption) (by k_extra "mem") (by k_extra "sub_but") ?_
  intro F ho B
  exact h _ _ _ F ho hd2 B
theorem make_local_there {v dv d x : Addr} {t1 t : Tok} {o : Obj} {kvs : List (Int × Value)} {k : Int} {Q : Value → Shared → Prop}
   (F : Fr h₀ L s.heap m) (N : News h₀ L s.heap news) (X : (hd.heap_1 w.params).In h₀) (T : TopRead p loose mg mb h₀) (hr : A.depth + 2 < recursionLimit)
   (m1 : (v, instObj 421 dv) ∈ news) (m2 : (dv, locO w.params t1 d) ∈ news) (m3 : (d, o) ∈ news) (lo : (d == sysModules) = false) (hd' : o.IsDictOf (PySem.intKind PySem.Challenge.rw_ok0067_01.row.prog w) kvs)
   (hk : (valueAt kvs k).isSome = true)
   (h : ∀ h' tk', Fr h₀ L h' m → News h₀ L h' news → Q .none { s with heap := h', toks := tk' }) :
   wpAny (model PySem.Challenge.rw_ok0067_01.row.prog w) A (call (.ref 404) [.ref v, .ref x, .int k t]) Q E s := by
  have hs : ∀ p ∈ [(v, instObj 421 dv), (dv, locO w.params t1 d), (d, o)], p ∈ news := by simp [m1, m2, m3]
  have N1 := news_sub N hs
  k_extra "my_enter"
  k_steps
  refine back_same (by assumption) (by assumption) (fun _ h => h) N hs ?_
  intro F N
  exact h _ _ F N
theorem kill_c {v dv d : Addr} {t1 t : Tok} {o : Obj} {kvs : List (Int × Value)} {k : Int} {Q : Value → Shared → Prop}
   (F : Fr h₀ L s.heap m) (N : News h₀ L s.heap news) (X : (hd.heap_1 w.params).In h₀) (T : TopRead p loose mg mb h₀) (hr : A.depth + 1 < recursionLimit)
   (m1 : (v, instObj 421 dv) ∈ news) (m2 : (dv, locO w.params t1 d) ∈ news) (m3 : (d, o) ∈ news) (ND : [v, dv, d].Nodup) (lo : (d == sysModules) = false) (hd' : o.IsDictOf (PySem.intKind PySem.Challenge.rw_ok0067_01.row.prog w) kvs)
   (hz : kvs.length ≤ 1000)
   (h : ∀ h' tk' o', Fr h₀ L h' m → h'.get? d = some o' → o'.IsDictOf (PySem.intKind PySem.Challenge.rw_ok0067_01.row.prog w) (without kvs k) → But s.heap h' d → Q .none { s with heap := h', toks := tk' }) :
   wpAny (model PySem.Challenge.rw_ok0067_01.row.prog w) A (call (.ref 411) [.ref v, .int k t]) Q E s := by
  have hs : ∀ p ∈ [(v, instObj 421 dv), (dv, locO w.params t1 d), (d, o)], p ∈ news := by simp [m1, m2, m3]
  have N1 := news_sub N hs
  cases hk : (valueAt kvs k).isSome
  · k_extra "my_enter"
    k_steps
    have hd2 : o.IsDictOf (PySem.intKind PySem.Challenge.rw_ok0067_01.row.prog w) (without kvs k) := by rw [without_none (by simpa using hk)]; exact hd'
    refine back_but (d := d) N1 (by assumption) (by assumption) (by k_extra "mem") (by k_extra "sub_but") ?_
    intro F ho B
    exact h _ _ _ F ho hd2 B
  · k_extra "my_enter"
    k_steps
    rename Obj.IsDictOf _ _ (without _ _) => hd2
    refine back_but (d := d) N1 (by assumption) (by assumption) (by k_extra "mem") (by k_extra "sub_but") ?_
    intro F ho B
    exact h _ _ _ F ho hd2 B
end
theorem words5 : True := by
  k_with "subl" => (first | exact List.nil_sublist _ | (refine List.Sublist.cons_cons _ ?_; k_extra "subl") | (refine List.Sublist.cons _ ?_; k_extra "subl"))
  k_with "sublist" => ((refine' List.Nodup.sublist ?_ ?q21n; (case q21n => assumption); k_extra "subl"))
  k_with "getItem ref int" => ((k_here; k_dflt (refine my_item (knd := PySem.intKind _ _) (by k_asm) (by k_mem) (by k_asm) (intKind_is _ _ _ _) (by k_asm) ?_)))
  k_with "getItem ref str" => ((k_here; k_dflt (refine my_item (knd := PySem.strKind _ _) (by k_asm) (by k_mem) (by k_asm) (strKind_is _ _ _ _) (by first | k_asm | rfl) ?_)))
  k_with "call ref" => ((k_here; (with_reducible show wpAny _ _ (call (Value.ref 390) _) _ _ _); k_dflt (refine' is_local_c ?q24F ?q24N ?q24X ?q24T ?q24r ?q24m1 ?q24m2 ?q24m3 ?q24lo ?q24hd ?_; (case q24F => k_asm); (case q24N => k_asm); (case q24X => k_asm); (case q24T => k_asm); (case q24r => k_room); (case q24m1 => k_mem); (case q24m2 => k_mem); (case q24m3 => k_mem); (case q24lo => k_asm); (case q24hd => k_asm); k_whole); (intro z9h' z9tk' z9F' z9N'); (try k_sweep)))
  k_with "call ref" => ((k_here; (with_reducible show wpAny _ _ (call (Value.ref 327) _) _ _ _); k_dflt (refine' default_value_c ?q24F ?q24N ?q24X ?q24T ?q24r ?q24m1 ?q24m2 ?q24m3 ?q24lo ?q24hd ?_; (case q24F => k_asm); (case q24N => k_asm); (case q24X => k_asm); (case q24T => k_asm); (case q24r => k_room); (case q24m1 => k_mem); (case q24m2 => k_mem); (case q24m3 => k_mem); (case q24lo => k_asm); (case q24hd => k_asm); k_whole); (intro z9h' z9tk' z9F' z9N'); (try k_sweep)))
  k_with "call ref" => ((k_here; (with_reducible show wpAny _ _ (call (Value.ref 355) _) _ _ _); k_dflt (refine' is_automatic_c ?q24F ?q24N ?q24X ?q24T ?q24r ?q24m1 ?q24m2 ?q24m3 ?q24lo ?q24hd ?_; (case q24F => k_asm); (case q24N => k_asm); (case q24X => k_asm); (case q24T => k_asm); (case q24r => k_room); (case q24m1 => k_mem); (case q24m2 => k_mem); (case q24m3 => k_mem); (case q24lo => k_asm); (case q24hd => k_asm); k_whole); (intro z9h' z9tk' z9F' z9N'); (try k_sweep)))
  k_with "call ref" => ((k_here; (with_reducible show wpAny _ _ (call (Value.ref 166) _) _ _ _); k_dflt (refine' function_of_c ?q24F ?q24N ?q24X ?q24T ?q24r ?q24m1 ?q24m2 ?q24m3 ?q24m4 ?q24m5 ?q24lo ?q24hd ?q24hx ?_; (case q24F => k_asm); (case q24N => k_asm); (case q24X => k_asm); (case q24T => k_asm); (case q24r => k_room); (case q24m1 => k_mem); (case q24m2 => k_mem); (case q24m3 => k_mem); (case q24m4 => k_mem); (case q24m5 => k_mem); (case q24lo => k_asm); (case q24hd => k_asm); (case q24hx => (first | with_reducible assumption | rfl)); k_whole); (intro z9h' z9tk' z9F' z9N'); (try k_sweep)))
  k_with "call ref" => ((k_here; (with_reducible show wpAny _ _ (call (Value.ref 334) _) _ _ _); k_dflt (refine' set_default_c ?q24F ?q24N ?q24X ?q24T ?q24r ?q24m1 ?q24m2 ?q24m3 ?q24nd ?q24hd ?q24hz ?_; (case q24F => k_asm); (case q24N => k_asm); (case q24X => k_asm); (case q24T => k_asm); (case q24r => k_room); (case q24m1 => k_mem); (case q24m2 => k_mem); (case q24m3 => k_mem); (case q24nd => (k_extra "sublist")); (case q24hd => k_asm); (case q24hz => omega); k_whole); (intro z9h' z9tk' z9o' z9F' z9ho' z9hd' z9B'); (have z9cN := chg_news (by assumption) (by assumption) (by k_extra "sub") z9B' z9ho' (by k_extra "chg")); (obtain ⟨z9N', z9ND'⟩ := z9cN); (try k_sweep)))
  k_with "call ref" => ((k_here; (with_reducible show wpAny _ _ (call (Value.ref 404) _) _ _ _); k_dflt (refine' make_local_there ?q24F ?q24N ?q24X ?q24T ?q24r ?q24m1 ?q24m2 ?q24m3 ?q24lo ?q24hd ?q24hk ?_; (case q24F => k_asm); (case q24N => k_asm); (case q24X => k_asm); (case q24T => k_asm); (case q24r => k_room); (case q24m1 => k_mem); (case q24m2 => k_mem); (case q24m3 => k_mem); (case q24lo => k_asm); (case q24hd => k_asm); (case q24hk => (with_reducible assumption)); k_whole); (intro z9h' z9tk' z9F' z9N'); (try k_sweep)))
  k_with "call ref" => ((k_here; (with_reducible show wpAny _ _ (call (Value.ref 411) _) _ _ _); k_dflt (refine' kill_c ?q24F ?q24N ?q24X ?q24T ?q24r ?q24m1 ?q24m2 ?q24m3 ?q24nd ?q24lo ?q24hd ?q24hz ?_; (case q24F => k_asm); (case q24N => k_asm); (case q24X => k_asm); (case q24T => k_asm); (case q24r => k_room); (case q24m1 => k_mem); (case q24m2 => k_mem); (case q24m3 => k_mem); (case q24nd => (k_extra "sublist")); (case q24lo => k_asm); (case q24hd => k_asm); (case q24hz => omega); k_whole); (intro z9h' z9tk' z9o' z9F' z9ho' z9hd' z9B'); (have z9cN := chg_news (by assumption) (by assumption) (by k_extra "sub") z9B' z9ho' (by k_extra "chg")); (obtain ⟨z9N', z9ND'⟩ := z9cN); (try k_sweep)))
  trivial
section
variable {w : World} {A : Around} {E : Value → Shared → Prop} {s : Shared} {L : Addr} {h₀ : Heap} {m mg mb : Str → Option Value}
  {news : List (Addr × Obj)} {p : Program} {loose : List Str}
theorem value_in_c {va dva df au pe lo dlo lv : Addr} {t1 t2 t3 t4 t : Tok} {o o2 : Obj} {kvs lvs : List (Int × Value)} {k : Int} {x : Value} {Q : Value → Shared → Prop}
   (F : Fr h₀ L s.heap m) (N : News h₀ L s.heap news) (X : (hd.heap_1 w.params).In h₀) (T : TopRead p loose mg mb h₀) (hr : A.depth + 2 < recursionLimit)
   (m1 : (va, instObj 365 dva) ∈ news) (m2 : (dva, varsO w.params t1 t2 t3 df au pe) ∈ news) (m3 : (df, o) ∈ news) (m4 : (lo, instObj 421 dlo) ∈ news) (m5 : (dlo, locO w.params t4 lv) ∈ news) (m6 : (lv, o2) ∈ news)
   (l1 : (df == sysModules) = false) (l2 : (lv == sysModules) = false) (hd1 : o.IsDictOf (PySem.intKind PySem.Challenge.rw_ok0067_01.row.prog w) kvs) (hd2 : o2.IsDictOf (PySem.intKind PySem.Challenge.rw_ok0067_01.row.prog w) lvs)
   (hx : (valueAt lvs k).getD ((valueAt kvs k).getD .none) = x)
   (h : ∀ h' tk', Fr h₀ L h' m → News h₀ L h' news → Q x { s with heap := h', toks := tk' }) :
   wpAny (model PySem.Challenge.rw_ok0067_01.row.prog w) A (call (.ref 432) [.ref va, .ref lo, .int k t]) Q E s := by
  have hs : ∀ p ∈ [(va, instObj 365 dva), (dva, varsO w.params t1 t2 t3 df au pe), (df, o), (lo, instObj 421 dlo), (dlo, locO w.params t4 lv), (lv, o2)], p ∈ news := by simp [m1, m2, m3, m4, m5, m6]
  have N1 := news_sub N hs
  clear m1 m2 m3 m4 m5 m6
  cases hk : valueAt lvs k with
  | none =>
    have hk2 : (valueAt lvs k).isSome = false := by rw [hk]; rfl
    rw [hk] at hx
    k_extra "my_enter"
    k_steps
    refine back_same (by assumption) (by assumption) (fun _ h => h) N hs ?_
    intro F N
    subst hx
    exact h _ _ F N
  | some y =>
    have hk2 : (valueAt lvs k).isSome = true := by rw [hk]; rfl
    rw [hk] at hx
    k_extra "my_enter"
    k_steps
    refine back_same (by assumption) (by assumption) (fun _ h => h) N hs ?_
    intro F N
    subst hx
    exact h _ _ F N
theorem set_in_local {va dva df au pe lo dlo lv : Addr} {t1 t2 t3 t4 t : Tok} {o o2 o3 : Obj} {lvs aus : List (Int × Value)} {k : Int} {x : Value} {Q : Value → Shared → Prop}
   (F : Fr h₀ L s.heap m) (N : News h₀ L s.heap news) (X : (hd.heap_1 w.params).In h₀) (T : TopRead p loose mg mb h₀) (hr : A.depth + 2 < recursionLimit)
   (m1 : (lo, instObj 421 dlo) ∈ news) (m2 : (dlo, locO w.params t4 lv) ∈ news) (m3 : (lv, o2) ∈ news) (ND : [lo, dlo, lv].Nodup)
   (l2 : (lv == sysModules) = false) (hd2 : o2.IsDictOf (PySem.intKind PySem.Challenge.rw_ok0067_01.row.prog w) lvs)
   (hk : (valueAt lvs k).isSome = true) (hz : lvs.length ≤ 1000)
   (h : ∀ h' tk' o', Fr h₀ L h' m → h'.get? lv = some o' → o'.IsDictOf (PySem.intKind PySem.Challenge.rw_ok0067_01.row.prog w) (stored lvs k x) → But s.heap h' lv → Q .none { s with heap := h', toks := tk' }) :
   wpAny (model PySem.Challenge.rw_ok0067_01.row.prog w) A (call (.ref 439) [.ref va, .ref lo, .int k t, x]) Q E s := by
  have hs : ∀ p ∈ [(lo, instObj 421 dlo), (dlo, locO w.params t4 lv), (lv, o2)], p ∈ news := by simp [m1, m2, m3]
  have N1 := news_sub N hs
  clear m1 m2 m3
  k_extra "my_enter"
  k_steps
  rename Obj.IsDictOf _ _ (stored _ _ _) => hd3
  refine back_but (d := lv) N1 (by assumption) (by assumption) (by k_extra "mem") (by k_extra "sub_but") ?_
  intro F ho B
  exact h _ _ _ F ho hd3 B
theorem set_in_default {va dva df au pe lo dlo lv : Addr} {t1 t2 t3 t4 t : Tok} {o o2 o3 : Obj} {kvs lvs aus : List (Int × Value)} {k : Int} {x : Value} {Q : Value → Shared → Prop}
   (F : Fr h₀ L s.heap m) (N : News h₀ L s.heap news) (X : (hd.heap_1 w.params).In h₀) (T : TopRead p loose mg mb h₀) (hr : A.depth + 2 < recursionLimit)
   (m1 : (va, instObj 365 dva) ∈ news) (m2 : (dva, varsO w.params t1 t2 t3 df au pe) ∈ news) (m3 : (df, o) ∈ news) (m7 : (au, o3) ∈ news) (m4 : (lo, instObj 421 dlo) ∈ news) (m5 : (dlo, locO w.params t4 lv) ∈ news) (m6 : (lv, o2) ∈ news)
   (ND : [va, dva, df, au, lo, dlo, lv].Nodup)
   (l2 : (lv == sysModules) = false) (l3 : (au == sysModules) = false) (hd1 : o.IsDictOf (PySem.intKind PySem.Challenge.rw_ok0067_01.row.prog w) kvs) (hd3 : o3.IsDictOf (PySem.intKind PySem.Challenge.rw_ok0067_01.row.prog w) aus) (hd2 : o2.IsDictOf (PySem.intKind PySem.Challenge.rw_ok0067_01.row.prog w) lvs)
   (hk : (valueAt lvs k).isSome = false) (hka : (valueAt aus k).isSome = false) (hz : kvs.length ≤ 1000)
   (h : ∀ h' tk' o', Fr h₀ L h' m → h'.get? df = some o' → o'.IsDictOf (PySem.intKind PySem.Challenge.rw_ok0067_01.row.prog w) (stored kvs k x) → But s.heap h' df → Q .none { s with heap := h', toks := tk' }) :
   wpAny (model PySem.Challenge.rw_ok0067_01.row.prog w) A (call (.ref 439) [.ref va, .ref lo, .int k t, x]) Q E s := by
  have hs : ∀ p ∈ [(va, instObj 365 dva), (dva, varsO w.params t1 t2 t3 df au pe), (df, o), (au, o3), (lo, instObj 421 dlo), (dlo, locO w.params t4 lv), (lv, o2)], p ∈ news := by simp [m1, m2, m3, m4, m5, m6, m7]
  have N1 := news_sub N hs
  clear m1 m2 m3 m4 m5 m6 m7
  have ND' : (List.map Prod.fst [(va, instObj 365 dva), (dva, varsO w.params t1 t2 t3 df au pe), (df, o), (au, o3), (lo, instObj 421 dlo), (dlo, locO w.params t4 lv), (lv, o2)]).Nodup := ND
  clear ND
  k_extra "my_enter"
  k_steps
  rename Obj.IsDictOf _ _ (stored _ _ _) => hd4
  refine back_but (d := df) N1 (by assumption) (by assumption) (by k_extra "mem") (by k_extra "sub_but") ?_
  intro F ho B
  exact h _ _ _ F ho hd4 B
theorem make_local_new {va dva df au pe lo dlo lv : Addr} {t1 t2 t3 t4 t : Tok} {o o2 : Obj} {kvs lvs : List (Int × Value)} {k : Int} {Q : Value → Shared → Prop}
   (F : Fr h₀ L s.heap m) (N : News h₀ L s.heap news) (X : (hd.heap_1 w.params).In h₀) (T : TopRead p loose mg mb h₀) (hr : A.depth + 2 < recursionLimit)
   (m1 : (va, instObj 365 dva) ∈ news) (m2 : (dva, varsO w.params t1 t2 t3 df au pe) ∈ news) (m3 : (df, o) ∈ news) (m4 : (lo, instObj 421 dlo) ∈ news) (m5 : (dlo, locO w.params t4 lv) ∈ news) (m6 : (lv, o2) ∈ news)
   (ND : [va, dva, df, lo, dlo, lv].Nodup)
   (l1 : (df == sysModules) = false) (l2 : (lv == sysModules) = false) (hd1 : o.IsDictOf (PySem.intKind PySem.Challenge.rw_ok0067_01.row.prog w) kvs) (hd2 : o2.IsDictOf (PySem.intKind PySem.Challenge.rw_ok0067_01.row.prog w) lvs)
   (hk : (valueAt lvs k).isSome = false) (hz : lvs.length ≤ 1000)
   (h : ∀ h' tk' o', Fr h₀ L h' m → h'.get? lv = some o' → o'.IsDictOf (PySem.intKind PySem.Challenge.rw_ok0067_01.row.prog w) (stored lvs k ((valueAt kvs k).getD .none)) → But s.heap h' lv → Q .none { s with heap := h', toks := tk' }) :
   wpAny (model PySem.Challenge.rw_ok0067_01.row.prog w) A (call (.ref 404) [.ref lo, .ref va, .int k t]) Q E s := by
  have hs : ∀ p ∈ [(va, instObj 365 dva), (dva, varsO w.params t1 t2 t3 df au pe), (df, o), (lo, instObj 421 dlo), (dlo, locO w.params t4 lv), (lv, o2)], p ∈ news := by simp [m1, m2, m3, m4, m5, m6]
  have N1 := news_sub N hs
  clear m1 m2 m3 m4 m5 m6
  k_extra "my_enter"
  k_steps
  rename Obj.IsDictOf _ _ (stored _ _ _) => hd3
  refine back_but (d := lv) N1 (by assumption) (by assumption) (by k_extra "mem") (by k_extra "sub_but") ?_
  intro F ho B
  exact h _ _ _ F ho hd3 B
end
section
variable {prog : Program} {w : World} {A : Around} {E : Value → Shared → Prop} {s : Shared} {h₀ : Heap} {L D : Addr} {m : Str → Option Value} {news news' : List (Addr × Obj)} {vs : List Value} {n : Nat}
theorem my_append {x : Value} {Q : Value → Shared → Prop} (F : Fr h₀ L s.heap m) (N : News h₀ L s.heap news) (U : Upd D (listOf vs.toArray n) (listOf (vs ++ [x]).toArray (n + 1)) news news') (hz : vs.length ≤ sizeLine)
    (h : ∀ h', Fr h₀ L h' m → News h₀ L h' news' → Q .none { s with heap := h' }) : wpAny (model prog w) A (call (.builtin "list.append") [.ref D, x]) Q E s :=
  append_K (its := vs.toArray) F N (by simpa using U) h (by simpa using hz)
theorem my_len {Q : Value → Shared → Prop} (N : News h₀ L s.heap news) (hm : (D, listOf vs.toArray n) ∈ news) (hf : vs.length ≤ 1000) (h : Q (.int (vs.length : Nat) (s.toks + 1)) { s with toks := s.toks + 1 + 1 }) :
    wpAny (model prog w) A (call (.builtin "len") [.ref D]) Q E s := kst_len N hm rfl (by omega) h
theorem my_at {k : Int} {u : Tok} {x : Value} {Q : Value → Shared → Prop} (N : News h₀ L s.heap news) (hm : (D, listOf vs.toArray n) ∈ news) (h0 : 0 ≤ k) (hf : k < 2 ^ 62) (hx : vs[k.toNat]? = some x) (h : Q x s) :
    wpAny (model prog w) A (getItem (.ref D) (.int k u)) Q E s := wpAny_getItem_list ⟨_, (N _ hm).1, rfl, n, rfl⟩ h0 (by omega) (by simpa using hx) h
theorem my_tail {value slice : PySem.Expr} {k : Int} {u : Tok} {x : Value} {Q : Value → Shared → Prop} (N : News h₀ L s.heap news) (hm : (D, listOf vs.toArray n) ∈ news) (h0 : 0 ≤ k) (hf : k < 2 ^ 62) (hx : vs[k.toNat]? = some x) (h : Q x s)
    (hs : subscripted slice false (.ref D) (.int k u) = operate [.ref D, .int k u] (getItem (.ref D) (.int k u)) := by with_unfolding_all rfl) : wpAny (model prog w) A (subscriptTail value slice (.ref D) (.int k u)) Q E s :=
  have hl : s.heap.IsList D vs.toArray := ⟨_, (N _ hm).1, rfl, n, rfl⟩
  tail_any hl.typeIs slot_list_getitem.lookup (my_at N hm h0 hf hx h) hs
end
/-- a symbol that stands on the ledger -/
structure Sy where
  a : Addr
  da : Addr
  t1 : Tok
  t2 : Tok
  tn : Tok
  tm : Tok
  k : Int
  name : PySem.Str
abbrev Sy.led (P : Params) (y : Sy) : List (Addr × Obj) := [(y.a, instObj 58 y.da), (y.da, symO P y.t1 y.t2 y.k y.tn y.name y.tm)]
def But2 (h h' : Heap) (d e : Addr) : Prop := ∀ a ob, a ≠ d → a ≠ e → h.get? a = some ob → h'.get? a = some ob
/-- objects that a call has made -/
def Fresh (h h' : Heap) (l : List (Addr × Obj)) : Prop := ∀ p ∈ l, h'.get? p.1 = some p.2 ∧ h.get? p.1 = none
section
variable {prog : Program} {w : World} {A : Around} {E : Value → Shared → Prop} {s s' : Shared} {L L' d e : Addr} {h₀ g hs : Heap} {m m' : Str → Option Value} {o' o'' : Obj}
  {news small small' new : List (Addr × Obj)} {R : Result → Shared → Prop} {v : Value}
theorem back_but_new (N : News h₀ L s.heap small) (F' : Fr g L' s'.heap m') (N' : News g L' s'.heap small')
    (gk : ∀ a ob, (∀ p ∈ small, p.1 ≠ a) → s.heap.get? a = some ob → g.get? a = some ob)
    (hd : (d, o') ∈ small') (hss : ∀ p ∈ small, p.1 ≠ d → p ∈ small')
    (hn : ∀ p ∈ new, p ∈ small') (hnn : ∀ p ∈ new, ∀ q ∈ small, q.1 ≠ p.1)
    (k : Fr h₀ L s'.heap m → s'.heap.get? d = some o' → But s.heap s'.heap d → Fresh s.heap s'.heap new → R (.ok (.ret v)) s') : Back h₀ L m s.heap small g R v s' :=
  back_but N F' N' hd hss fun F ho B => k F ho B fun p hp => ⟨(N' p (hn p hp)).1, by
    cases q : s.heap.get? p.1 with
    | none => rfl
    | some ob => have := (N' p (hn p hp)).2.2; rw [gk _ _ (hnn p hp) q] at this; cases this⟩
theorem back_but2_new (N : News h₀ L s.heap small) (F' : Fr g L' s'.heap m') (N' : News g L' s'.heap small')
    (gk : ∀ a ob, (∀ p ∈ small, p.1 ≠ a) → s.heap.get? a = some ob → g.get? a = some ob)
    (hd : (d, o') ∈ small') (he : (e, o'') ∈ small') (hss : ∀ p ∈ small, p.1 ≠ d → p.1 ≠ e → p ∈ small')
    (hn : ∀ p ∈ new, p ∈ small') (hnn : ∀ p ∈ new, ∀ q ∈ small, q.1 ≠ p.1)
    (k : Fr h₀ L s'.heap m → s'.heap.get? d = some o' → s'.heap.get? e = some o'' → But2 s.heap s'.heap d e → Fresh s.heap s'.heap new → R (.ok (.ret v)) s') : Back h₀ L m s.heap small g R v s' :=
  ⟨L', m', small', F', N', fun F Ns kp => k F (Ns _ hd).1 (Ns _ he).1 (fun a ob h1 h2 e => by
    by_cases c : ∃ p ∈ small, p.1 = a
    · obtain ⟨q, hq, rfl⟩ := c
      have h3 := (N q hq).1
      rw [e] at h3
      rw [(Ns _ (hss q hq h1 h2)).1]; exact h3.symm
    · exact kp a ob (fun q hq e' => c ⟨q, hq, e'⟩) e) fun p hp => ⟨(N' p (hn p hp)).1, by
    cases q : s.heap.get? p.1 with
    | none => rfl
    | some ob => have := (N' p (hn p hp)).2.2; rw [gk _ _ (hnn p hp) q] at this; cases this⟩⟩
theorem fresh_news {h h' : Heap} (F : Fr h₀ L h m) (W : Fresh h h' new) : News h₀ L h' new := fun p hp => by
  refine ⟨(W p hp).1, fun e => ?_, ?_⟩
  · obtain ⟨oL, _, _, hL, _⟩ := F.ns
    have := (W p hp).2
    rw [e, hL] at this; cases this
  · cases q : h₀.get? p.1 with
    | none => rfl
    | some o => have := (W p hp).2; rw [F.keep _ _ q] at this; cases this
end
theorem words6 : True := by
  k_with "my_inl" => ((refine' code_inl ?q25k1 ?q25k2 ?q25kN ?q25k3 ?q25k4 ?q25k5 ?q25k6 ?q25k7 ?q25k8 ?_ ?q25c2 ?q25c3 ?q25c4 ?q25c5; (case q25k1 => k_asm); (case q25k2 => k_asm); (case q25kN => k_asm); (case q25k3 => k_asm); (case q25k4 => k_is); (case q25k5 => k_is); (case q25k6 => k_room); (case q25k7 => first | exact BindsTo.of_eq rfl | exact binds_K (by k_in) rfl (by k_is) rfl rfl rfl); (case q25k8 => exact locs rfl); (case q25c2 => exact rfl); (case q25c3 => exact rfl); (case q25c4 => exact rfl); (case q25c5 => decide); (intro z9g' z9L' z9h' z9FG' z9F' z9N' z9X' z9T'); dsimp only; (show wpAny _ _ _ _ _ _); k_fold))
  k_with "call ref" => ((k_here; k_dflt (first
  | (refine' call_cls0 ?q24k1 ?q24k2 ?q24k3 ?q24k4 ?q24k5 ?_; (case q24k1 => k_asm); (case q24k2 => k_asm); (case q24k3 => k_asm); (case q24k4 => k_is); (case q24k5 => k_is); k_whole; intro z9x' z9d' z9h' z9F' z9N' z9l1 z9l2; (try k_lt z9l1); (try k_lt2 z9l2); (try k_sweep))
  | (refine' call_cls ?q24k1 ?q24k2 ?q24k3 ?q24k4 ?q24k5 ?q24k6 ?_; (case q24k1 => k_asm); (case q24k2 => k_asm); (case q24k3 => k_asm); (case q24k4 => k_is); (case q24k5 => k_is); (case q24k6 => k_is); k_whole; intro z9x' z9d' z9h' z9F' z9N' z9l1 z9l2; (try k_lt z9l1); (try k_lt2 z9l2); (try k_sweep); k_extra "my_inl"))))
  k_with "k_ne" => ((refine neN ?_; (try dsimp only); first | k_extra "nd" | omega))
  k_with "call builtin:list.append" => ((k_here; (with_reducible show wpAny _ _ (call (Value.builtin _) [Value.ref _, _]) _ _ _); k_dflt (refine' my_append ?q26k1 ?q26k2 ?q26k3 ?q26z ?_; (case q26k1 => k_asm); (case q26k2 => k_asm); (case q26k3 => k_upd); (case q26z => rw [sizeLine_eq]; omega); k_whole); intro z9h' z9F' z9N'; (try k_sweep)))
  k_with "call builtin:len" => ((k_here; (with_reducible show wpAny _ _ (call (Value.builtin "len") [Value.ref _]) _ _ _); k_dflt (refine my_len (by k_asm) (by k_mem) (by k_asm) ?_)))
  k_with "getItem ref int" => ((k_here; k_dflt (refine my_at (by k_asm) (by k_mem) (by omega) (by omega) (by k_asm) ?_)))
  k_with "subscriptTail" => ((k_here; (with_reducible show wpAny _ _ (subscriptTail _ _ (Value.ref _) (Value.int _ _)) _ _ _); k_dflt (refine my_tail (by k_asm) (by k_mem) (by omega) (by omega) (by k_asm) ?_)))
  k_with "nn" => (first | exact List.forall_mem_nil _ | (refine' List.forall_mem_cons.mpr ⟨?q29a, ?q29b⟩; (case q29a => k_all); (case q29b => k_extra "nn")))
  k_with "hn" => (first | exact List.forall_mem_nil _ | (refine' List.forall_mem_cons.mpr ⟨?q30a, ?q30b⟩; (case q30a => k_extra "mem"); (case q30b => k_extra "hn")))
  trivial
section
variable {w : World} {A : Around} {E : Value → Shared → Prop} {s : Shared} {L : Addr} {h₀ : Heap} {m mg mb : Str → Option Value}
  {news : List (Addr × Obj)} {p : Program} {loose : List Str}
theorem by_number_c {ob dob rw nm : Addr} {t1 t2 t : Tok} {vs : List Value} {n : Nat} {k : Int} {x : Value} {Q : Value → Shared → Prop}
   (F : Fr h₀ L s.heap m) (N : News h₀ L s.heap news) (X : (hd.heap_1 w.params).In h₀) (T : TopRead p loose mg mb h₀) (hr : A.depth + 1 < recursionLimit)
   (m1 : (ob, instObj 302 dob) ∈ news) (m2 : (dob, obO w.params t1 t2 rw nm) ∈ news) (m3 : (rw, listOf vs.toArray n) ∈ news)
   (h0 : 0 ≤ k) (h1 : k < 2 ^ 62) (hx : vs[k.toNat]? = some x)
   (h : ∀ h' tk', Fr h₀ L h' m → News h₀ L h' news → Q x { s with heap := h', toks := tk' }) :
   wpAny (model PySem.Challenge.rw_ok0067_01.row.prog w) A (call (.ref 271) [.ref ob, .int k t]) Q E s := by
  have hs : ∀ p ∈ [(ob, instObj 302 dob), (dob, obO w.params t1 t2 rw nm), (rw, listOf vs.toArray n)], p ∈ news := by simp [m1, m2, m3]
  have N1 := news_sub N hs
  clear m1 m2 m3
  k_extra "my_enter"
  k_steps
  refine back_same (by assumption) (by assumption) (fun _ h => h) N hs ?_
  intro F N
  exact h _ _ F N
theorem fresh_c {ob dob rw nm : Addr} {t1 t2 t : Tok} {vs : List Value} {n : Nat} {name : PySem.Str} {Q : Value → Shared → Prop}
   (F : Fr h₀ L s.heap m) (N : News h₀ L s.heap news) (X : (hd.heap_1 w.params).In h₀) (T : TopRead p loose mg mb h₀) (hr : A.depth + 3 < recursionLimit)
   (m1 : (ob, instObj 302 dob) ∈ news) (m2 : (dob, obO w.params t1 t2 rw nm) ∈ news) (m3 : (rw, listOf vs.toArray n) ∈ news) (ND : [ob, dob, rw].Nodup) (hz : vs.length ≤ 1000)
   (h : ∀ h' tk' (y : Sy), Fr h₀ L h' m → h'.get? rw = some (listOf (vs ++ [Value.ref y.a]).toArray (n + 1)) → But s.heap h' rw → Fresh s.heap h' (Sy.led w.params y) → y.k = vs.length → y.name = name → Q (Value.ref y.a) { s with heap := h', toks := tk' }) :
   wpAny (model PySem.Challenge.rw_ok0067_01.row.prog w) A (call (.ref 264) [.ref ob, .str name t]) Q E s := by
  have hs : ∀ p ∈ [(ob, instObj 302 dob), (dob, obO w.params t1 t2 rw nm), (rw, listOf vs.toArray n)], p ∈ news := by simp [m1, m2, m3]
  have N1 := news_sub N hs
  clear m1 m2 m3
  k_extra "my_enter"
  k_steps
  rename News _ _ _ ((_, _) :: (_, dictOf _ _) :: _) => N9
  refine' back_but_new (d := rw) (o' := listOf (vs ++ [Value.ref _]).toArray (n + 1)) (new := Sy.led w.params ⟨_, _, _, _, _, _, _, _⟩) N1 (by assumption) N9 (by assumption) (by k_extra "mem") (by k_extra "sub_but") ?hn ?hnn ?k
  case hn => k_extra "hn"
  case hnn => k_extra "nn"
  case k =>
    intro F ho B W
    exact h _ _ _ F ho B W rfl rfl
end
theorem But.to2 {h h' : Heap} {d e : Addr} (B : But h h' d) : But2 h h' d e := fun a ob h1 _ q => B a ob h1 q
theorem But2.trans1 {h h' h'' : Heap} {d e : Addr} (B : But h h' d) (B' : But h' h'' e) : But2 h h'' d e := fun a ob h1 h2 q => B' a ob h2 (B a ob h1 q)
theorem chg2_news {h₀ h h' : Heap} {L d e : Addr} {o' o'' : Obj} {l l₁ l' news : List (Addr × Obj)} (ND : (l.map Prod.fst).Nodup) (N : News h₀ L h news) (hs : ∀ p ∈ l, p ∈ news) (B : But2 h h' d e) (ho : h'.get? d = some o') (ho2 : h'.get? e = some o'')
    (C : Chg d o' l l₁) (C2 : Chg e o'' l₁ l') : News h₀ L h' l' ∧ (l'.map Prod.fst).Nodup := by
  have ND1 : (l₁.map Prod.fst).Nodup := C.keys ▸ ND
  refine ⟨fun p hp => ?_, C2.keys ▸ ND1⟩
  rcases C2.mem ND1 p hp with rfl | ⟨h1, h2⟩
  · obtain ⟨o, hm⟩ := C2.has
    rcases C.mem ND _ hm with q | ⟨h3, h4⟩
    · obtain ⟨o2, hm2⟩ := C.has
      cases q
      exact ⟨ho2, (N _ (hs _ hm2)).2⟩
    · exact ⟨ho2, (N _ (hs _ h4)).2⟩
  · rcases C.mem ND p h2 with rfl | ⟨h3, h4⟩
    · obtain ⟨o, hm⟩ := C.has
      exact ⟨ho, (N _ (hs _ hm)).2⟩
    · exact ⟨B _ _ h3 h1 (N _ (hs _ h4)).1, (N _ (hs _ h4)).2⟩
theorem add_sy {P : Params} {h₀ h h' : Heap} {L : Addr} {m : Str → Option Value} {l' news : List (Addr × Obj)} {y : Sy} (F : Fr h₀ L h m) (hl : ∀ p ∈ l', ∃ o, h.get? p.1 = some o) (C : News h₀ L h' l' ∧ (l'.map Prod.fst).Nodup) (W : Fresh h h' (Sy.led P y)) :
    News h₀ L h' ((y.a, instObj 58 y.da) :: (y.da, symO P y.t1 y.t2 y.k y.tn y.name y.tm) :: l') ∧ (((y.a, instObj 58 y.da) :: (y.da, symO P y.t1 y.t2 y.k y.tn y.name y.tm) :: l').map Prod.fst).Nodup := by
  have W1 := W (y.a, instObj 58 y.da) (.head _)
  have W2 := W (y.da, symO P y.t1 y.t2 y.k y.tn y.name y.tm) (.tail _ (.head _))
  have NW := fresh_news F W
  refine ⟨fun p hp => ?_, ?_⟩
  · rcases List.mem_cons.mp hp with rfl | hp
    · exact NW _ (.head _)
    rcases List.mem_cons.mp hp with rfl | hp
    · exact NW _ (.tail _ (.head _))
    · exact C.1 p hp
  · have off : ∀ b, h.get? b = none → b ∉ l'.map Prod.fst := fun b hb q => by
      obtain ⟨p, hp, rfl⟩ := List.mem_map.mp q
      obtain ⟨o, ho⟩ := hl p hp
      rw [hb] at ho; cases ho
    rw [List.map_cons, List.map_cons]
    refine List.nodup_cons.mpr ⟨?_, List.nodup_cons.mpr ⟨off _ W2.2, C.2⟩⟩
    intro q
    rcases List.mem_cons.mp q with e | q
    · have h1 := W1.1; have h2 := W2.1
      dsimp only at e h1 h2
      rw [e, h2] at h1
      have h3 := congrArg Obj.cls (Option.some.inj h1)
      cases h3
    · exact off _ W1.2 q
theorem chg_sy {P : Params} {h₀ h h' : Heap} {L d : Addr} {m : Str → Option Value} {o' : Obj} {l l' news : List (Addr × Obj)} {y : Sy} (F : Fr h₀ L h m) (ND : (l.map Prod.fst).Nodup) (N : News h₀ L h news) (hs : ∀ p ∈ l, p ∈ news) (B : But h h' d) (ho : h'.get? d = some o') (C : Chg d o' l l') (W : Fresh h h' (Sy.led P y)) :
    News h₀ L h' ((y.a, instObj 58 y.da) :: (y.da, symO P y.t1 y.t2 y.k y.tn y.name y.tm) :: l') ∧ (((y.a, instObj 58 y.da) :: (y.da, symO P y.t1 y.t2 y.k y.tn y.name y.tm) :: l').map Prod.fst).Nodup :=
  add_sy (news := news) F (fun p hp => by
    have h1 : p.1 ∈ l.map Prod.fst := C.keys ▸ List.mem_map_of_mem hp
    obtain ⟨q, hq, e⟩ := List.mem_map.mp h1
    exact ⟨q.2, by rw [← e]; exact (N _ (hs _ hq)).1⟩) (chg_news ND N hs B ho C) W
theorem chg2_sy {P : Params} {h₀ h h' : Heap} {L d e : Addr} {m : Str → Option Value} {o' o'' : Obj} {l l₁ l' news : List (Addr × Obj)} {y : Sy} (F : Fr h₀ L h m) (ND : (l.map Prod.fst).Nodup) (N : News h₀ L h news) (hs : ∀ p ∈ l, p ∈ news) (B : But2 h h' d e) (ho : h'.get? d = some o') (ho2 : h'.get? e = some o'')
    (C : Chg d o' l l₁) (C2 : Chg e o'' l₁ l') (W : Fresh h h' (Sy.led P y)) :
    News h₀ L h' ((y.a, instObj 58 y.da) :: (y.da, symO P y.t1 y.t2 y.k y.tn y.name y.tm) :: l') ∧ (((y.a, instObj 58 y.da) :: (y.da, symO P y.t1 y.t2 y.k y.tn y.name y.tm) :: l').map Prod.fst).Nodup :=
  add_sy (news := news) F (fun p hp => by
    have h1 : p.1 ∈ l.map Prod.fst := C.keys ▸ C2.keys ▸ List.mem_map_of_mem hp
    obtain ⟨q, hq, e⟩ := List.mem_map.mp h1
    exact ⟨q.2, by rw [← e]; exact (N _ (hs _ hq)).1⟩) (chg2_news ND N hs B ho ho2 C C2) W
theorem words7 : True := by
  k_with "call ref" => ((k_here; (with_reducible show wpAny _ _ (call (Value.ref 271) _) _ _ _); k_dflt (refine' by_number_c ?q24F ?q24N ?q24X ?q24T ?q24r ?q24m1 ?q24m2 ?q24m3 ?q24h0 ?q24h1 ?q24hx ?_; (case q24F => k_asm); (case q24N => k_asm); (case q24X => k_asm); (case q24T => k_asm); (case q24r => k_room); (case q24m1 => k_mem); (case q24m2 => k_mem); (case q24m3 => k_mem); (case q24h0 => k_asm); (case q24h1 => omega); (case q24hx => k_asm); k_whole); (intro z9h' z9tk' z9F' z9N'); (try k_sweep)))
  k_with "call ref" => ((k_here; (with_reducible show wpAny _ _ (call (Value.ref 264) _) _ _ _); k_dflt (refine' fresh_c ?q24F ?q24N ?q24X ?q24T ?q24r ?q24m1 ?q24m2 ?q24m3 ?q24nd ?q24hz ?_; (case q24F => k_asm); (case q24N => k_asm); (case q24X => k_asm); (case q24T => k_asm); (case q24r => k_room); (case q24m1 => k_mem); (case q24m2 => k_mem); (case q24m3 => k_mem); (case q24nd => (k_extra "sublist")); (case q24hz => omega); k_whole); (intro z9h' z9tk' z9y' z9F' z9ho' z9B' z9W' z9hyk' z9hyn'); (have z9cN := chg_sy (by k_asm) (by assumption) (by assumption) (by k_extra "sub") z9B' z9ho' (by k_extra "chg") z9W'); (obtain ⟨z9N', z9ND'⟩ := z9cN); (try k_sweep)))
  trivial
section
variable {w : World} {A : Around} {E : Value → Shared → Prop} {s : Shared} {L : Addr} {h₀ : Heap} {m mg mb : Str → Option Value}
  {news : List (Addr × Obj)} {p : Program} {loose : List Str}
theorem intern_old {ob dob rw nm a : Addr} {t1 t2 t : Tok} {o : Obj} {kvs : List (PySem.Str × Value)} {name : PySem.Str} {Q : Value → Shared → Prop}
   (F : Fr h₀ L s.heap m) (N : News h₀ L s.heap news) (X : (hd.heap_1 w.params).In h₀) (T : TopRead p loose mg mb h₀) (hr : A.depth + 1 < recursionLimit)
   (m1 : (ob, instObj 302 dob) ∈ news) (m2 : (dob, obO w.params t1 t2 rw nm) ∈ news) (m3 : (nm, o) ∈ news) (lo : (nm == sysModules) = false) (hd' : o.IsDictOf (PySem.strKind PySem.Challenge.rw_ok0067_01.row.prog w) kvs)
   (hk : valueAt kvs name = some (.ref a))
   (h : ∀ h' tk', Fr h₀ L h' m → News h₀ L h' news → Q (.ref a) { s with heap := h', toks := tk' }) :
   wpAny (model PySem.Challenge.rw_ok0067_01.row.prog w) A (call (.ref 250) [.ref ob, .str name t]) Q E s := by
  have hs : ∀ p ∈ [(ob, instObj 302 dob), (dob, obO w.params t1 t2 rw nm), (nm, o)], p ∈ news := by simp [m1, m2, m3]
  have N1 := news_sub N hs
  clear m1 m2 m3
  k_extra "my_enter"
  k_steps
  refine back_same (by assumption) (by assumption) (fun _ h => h) N hs ?_
  intro F N
  exact h _ _ F N
theorem intern_new {ob dob rw nm : Addr} {t1 t2 t : Tok} {o : Obj} {kvs : List (PySem.Str × Value)} {vs : List Value} {n : Nat} {name : PySem.Str} {Q : Value → Shared → Prop}
   (F : Fr h₀ L s.heap m) (N : News h₀ L s.heap news) (X : (hd.heap_1 w.params).In h₀) (T : TopRead p loose mg mb h₀) (hr : A.depth + 4 < recursionLimit)
   (m1 : (ob, instObj 302 dob) ∈ news) (m2 : (dob, obO w.params t1 t2 rw nm) ∈ news) (m3 : (rw, listOf vs.toArray n) ∈ news) (m4 : (nm, o) ∈ news) (ND : [ob, dob, rw, nm].Nodup) (lo : (nm == sysModules) = false) (hd' : o.IsDictOf (PySem.strKind PySem.Challenge.rw_ok0067_01.row.prog w) kvs)
   (hk : valueAt kvs name = none) (hz : vs.length ≤ 1000) (hz2 : kvs.length ≤ 1000)
   (h : ∀ h' tk' o' (y : Sy), Fr h₀ L h' m → h'.get? rw = some (listOf (vs ++ [Value.ref y.a]).toArray (n + 1)) → h'.get? nm = some o' → o'.IsDictOf (PySem.strKind PySem.Challenge.rw_ok0067_01.row.prog w) (stored kvs name (Value.ref y.a)) →
      But2 s.heap h' rw nm → Fresh s.heap h' (Sy.led w.params y) → y.k = vs.length → y.name = name → Q (Value.ref y.a) { s with heap := h', toks := tk' }) :
   wpAny (model PySem.Challenge.rw_ok0067_01.row.prog w) A (call (.ref 250) [.ref ob, .str name t]) Q E s := by
  have hs : ∀ p ∈ [(ob, instObj 302 dob), (dob, obO w.params t1 t2 rw nm), (rw, listOf vs.toArray n), (nm, o)], p ∈ news := by simp [m1, m2, m3, m4]
  have N1 := news_sub N hs
  have ND1 : (List.map Prod.fst [(ob, instObj 302 dob), (dob, obO w.params t1 t2 rw nm), (rw, listOf vs.toArray n), (nm, o)]).Nodup := ND
  clear m1 m2 m3 m4 ND
  k_extra "my_enter"
  k_steps
  rename News _ _ _ ((_, _) :: (_, _) :: (_, _) :: _) => N9
  rename Sy => y9
  rename Obj.IsDictOf _ _ (stored _ _ _) => hd9
  rename y9.k = _ => hk9
  rename y9.name = _ => hn9
  refine' back_but2_new (d := rw) (e := nm) (o' := listOf (vs ++ [Value.ref y9.a]).toArray (n + 1)) (o'' := _) (new := Sy.led w.params y9) N1 (by assumption) N9 (by assumption) (by k_extra "mem") (by k_extra "mem") (by k_extra "sub_but2") ?hn ?hnn ?k
  case hn => k_extra "hn"
  case hnn => k_extra "nn"
  case k =>
    intro F ho ho2 B W
    exact h _ _ _ _ F ho ho2 hd9 B W hk9 hn9
end
theorem words8 : True := by
  k_with "k_get" => (k_asm)
  k_with "call ref" => ((k_here; (with_reducible show wpAny _ _ (call (Value.ref 271) _) _ _ _); k_dflt (refine' by_number_c ?q24F ?q24N ?q24X ?q24T ?q24r ?q24m1 ?q24m2 ?q24m3 ?q24h0 ?q24h1 ?q24hx ?_; (case q24F => k_asm); (case q24N => k_asm); (case q24X => k_asm); (case q24T => k_asm); (case q24r => k_room); (case q24m1 => k_mem); (case q24m2 => k_mem); (case q24m3 => k_mem); (case q24h0 => (first | with_reducible assumption | omega)); (case q24h1 => omega); (case q24hx => (first | with_reducible assumption | exact rows_last _ _)); k_whole); (intro z9h' z9tk' z9F' z9N'); (try k_sweep)))
  k_with "call ref" => ((k_here; (with_reducible show wpAny _ _ (call (Value.ref 264) _) _ _ _); k_dflt (refine' fresh_c ?q24F ?q24N ?q24X ?q24T ?q24r ?q24m1 ?q24m2 ?q24m3 ?q24nd ?q24hz ?_; (case q24F => k_asm); (case q24N => k_asm); (case q24X => k_asm); (case q24T => k_asm); (case q24r => k_room); (case q24m1 => k_mem); (case q24m2 => k_mem); (case q24m3 => k_mem); (case q24nd => (k_extra "sublist")); (case q24hz => omega); k_whole); (intro z9h' z9tk' z9y' z9F' z9ho' z9B' z9W' z9hyk' z9hyn'); (have z9cN := chg_sy (by k_asm) (by assumption) (by assumption) (by k_extra "sub") z9B' z9ho' (by k_extra "chg") z9W'); (obtain ⟨z9N', z9ND'⟩ := z9cN); (try k_sweep)))
  k_with "call ref" => ((k_here; (with_reducible show wpAny _ _ (call (Value.ref 250) _) _ _ _); k_dflt (refine' intern_old ?q24F ?q24N ?q24X ?q24T ?q24r ?q24m1 ?q24m2 ?q24m3 ?q24lo ?q24hd ?q24hk ?_; (case q24F => k_asm); (case q24N => k_asm); (case q24X => k_asm); (case q24T => k_asm); (case q24r => k_room); (case q24m1 => k_mem); (case q24m2 => k_mem); (case q24m3 => k_mem); (case q24lo => k_asm); (case q24hd => k_asm); (case q24hk => (with_reducible assumption)); k_whole); (intro z9h' z9tk' z9F' z9N'); (try k_sweep)))
  k_with "call ref" => ((k_here; (with_reducible show wpAny _ _ (call (Value.ref 250) _) _ _ _); k_dflt (refine' intern_new ?q24F ?q24N ?q24X ?q24T ?q24r ?q24m1 ?q24m2 ?q24m3 ?q24m4 ?q24nd ?q24lo ?q24hd ?q24hk ?q24hz ?q24hz2 ?_; (case q24F => k_asm); (case q24N => k_asm); (case q24X => k_asm); (case q24T => k_asm); (case q24r => k_room); (case q24m1 => k_mem); (case q24m2 => k_mem); (case q24m3 => k_mem); (case q24m4 => k_mem); (case q24nd => (k_extra "sublist")); (case q24lo => k_asm); (case q24hd => k_asm); (case q24hk => (with_reducible assumption)); (case q24hz => omega); (case q24hz2 => omega); k_whole); (intro z9h' z9tk' z9o' z9y' z9F' z9ho' z9ho2' z9hd' z9B' z9W' z9hyk' z9hyn'); (have z9cN := chg2_sy (by k_asm) (by assumption) (by assumption) (by k_extra "sub") z9B' z9ho' z9ho2' (by k_extra "chg") (by k_extra "chg") z9W'); (obtain ⟨z9N', z9ND'⟩ := z9cN); (try k_sweep)))
  trivial
section
variable {w : World} {A : Around} {E : Value → Shared → Prop} {s : Shared} {L : Addr} {h₀ : Heap} {m mg mb : Str → Option Value}
  {news : List (Addr × Obj)} {p : Program} {loose : List Str}
theorem symbol_old {W dW ob ce va ba dob rw nm a : Addr} {u1 u2 u3 u4 u5 u6 u7 t1 t2 t : Tok} {cur : Value} {lm : Int} {lt : Tok} {o : Obj} {kvs : List (PySem.Str × Value)} {name : PySem.Str} {Q : Value → Shared → Prop}
   (F : Fr h₀ L s.heap m) (N : News h₀ L s.heap news) (X : (hd.heap_1 w.params).In h₀) (T : TopRead p loose mg mb h₀) (hr : A.depth + 2 < recursionLimit)
   (m1 : (W, instObj 484 dW) ∈ news) (m2 : (dW, worldO w.params u1 u2 u3 u4 u5 u6 u7 ob ce va ba cur lm lt) ∈ news)
   (m3 : (ob, instObj 302 dob) ∈ news) (m4 : (dob, obO w.params t1 t2 rw nm) ∈ news) (m5 : (nm, o) ∈ news) (lo : (nm == sysModules) = false) (hd' : o.IsDictOf (PySem.strKind PySem.Challenge.rw_ok0067_01.row.prog w) kvs)
   (hk : valueAt kvs name = some (.ref a))
   (h : ∀ h' tk', Fr h₀ L h' m → News h₀ L h' news → Q (.ref a) { s with heap := h', toks := tk' }) :
   wpAny (model PySem.Challenge.rw_ok0067_01.row.prog w) A (call (.ref 460) [.ref W, .str name t]) Q E s := by
  have hs : ∀ p ∈ [(W, instObj 484 dW), (dW, worldO w.params u1 u2 u3 u4 u5 u6 u7 ob ce va ba cur lm lt), (ob, instObj 302 dob), (dob, obO w.params t1 t2 rw nm), (nm, o)], p ∈ news := by simp [m1, m2, m3, m4, m5]
  have N1 := news_sub N hs
  clear m1 m2 m3 m4 m5
  k_extra "my_enter"
  k_steps
  refine back_same (by assumption) (by assumption) (fun _ h => h) N hs ?_
  intro F N
  exact h _ _ F N
theorem symbol_new {W dW ob ce va ba dob rw nm : Addr} {u1 u2 u3 u4 u5 u6 u7 t1 t2 t : Tok} {cur : Value} {lm : Int} {lt : Tok} {o : Obj} {kvs : List (PySem.Str × Value)} {vs : List Value} {n : Nat} {name : PySem.Str} {Q : Value → Shared → Prop}
   (F : Fr h₀ L s.heap m) (N : News h₀ L s.heap news) (X : (hd.heap_1 w.params).In h₀) (T : TopRead p loose mg mb h₀) (hr : A.depth + 5 < recursionLimit)
   (m1 : (W, instObj 484 dW) ∈ news) (m2 : (dW, worldO w.params u1 u2 u3 u4 u5 u6 u7 ob ce va ba cur lm lt) ∈ news)
   (m3 : (ob, instObj 302 dob) ∈ news) (m4 : (dob, obO w.params t1 t2 rw nm) ∈ news) (m5 : (rw, listOf vs.toArray n) ∈ news) (m6 : (nm, o) ∈ news) (ND : [W, dW, ob, dob, rw, nm].Nodup) (lo : (nm == sysModules) = false) (hd' : o.IsDictOf (PySem.strKind PySem.Challenge.rw_ok0067_01.row.prog w) kvs)
   (hk : valueAt kvs name = none) (hz : vs.length ≤ 1000) (hz2 : kvs.length ≤ 1000)
   (h : ∀ h' tk' o' (y : Sy), Fr h₀ L h' m → h'.get? rw = some (listOf (vs ++ [Value.ref y.a]).toArray (n + 1)) → h'.get? nm = some o' → o'.IsDictOf (PySem.strKind PySem.Challenge.rw_ok0067_01.row.prog w) (stored kvs name (Value.ref y.a)) →
      But2 s.heap h' rw nm → Fresh s.heap h' (Sy.led w.params y) → y.k = vs.length → y.name = name → Q (Value.ref y.a) { s with heap := h', toks := tk' }) :
   wpAny (model PySem.Challenge.rw_ok0067_01.row.prog w) A (call (.ref 460) [.ref W, .str name t]) Q E s := by
  have hs : ∀ p ∈ [(W, instObj 484 dW), (dW, worldO w.params u1 u2 u3 u4 u5 u6 u7 ob ce va ba cur lm lt), (ob, instObj 302 dob), (dob, obO w.params t1 t2 rw nm), (rw, listOf vs.toArray n), (nm, o)], p ∈ news := by simp [m1, m2, m3, m4, m5, m6]
  have N1 := news_sub N hs
  have ND1 : (List.map Prod.fst [(W, instObj 484 dW), (dW, worldO w.params u1 u2 u3 u4 u5 u6 u7 ob ce va ba cur lm lt), (ob, instObj 302 dob), (dob, obO w.params t1 t2 rw nm), (rw, listOf vs.toArray n), (nm, o)]).Nodup := ND
  clear m1 m2 m3 m4 m5 m6 ND
  k_extra "my_enter"
  k_steps
  rename News _ _ _ ((_, _) :: (_, _) :: (_, _) :: _) => N9
  rename Sy => y9
  rename Obj.IsDictOf _ _ (stored _ _ _) => hd9
  rename y9.k = _ => hk9
  rename y9.name = _ => hn9
  refine' back_but2_new (d := rw) (e := nm) (o' := listOf (vs ++ [Value.ref y9.a]).toArray (n + 1)) (o'' := _) (new := Sy.led w.params y9) N1 (by assumption) N9 (by assumption) (by k_extra "mem") (by k_extra "mem") (by k_extra "sub_but2") ?hn ?hnn ?k
  case hn => k_extra "hn"
  case hnn => k_extra "nn"
  case k =>
    intro F ho ho2 B W
    exact h _ _ _ _ F ho ho2 hd9 B W hk9 hn9
theorem own_none {W dW ob ce va ba : Addr} {u1 u2 u3 u4 u5 u6 u7 : Tok} {lm : Int} {lt : Tok} {Q : Value → Shared → Prop}
   (F : Fr h₀ L s.heap m) (N : News h₀ L s.heap news) (X : (hd.heap_1 w.params).In h₀) (T : TopRead p loose mg mb h₀) (hr : A.depth + 1 < recursionLimit)
   (m1 : (W, instObj 484 dW) ∈ news) (m2 : (dW, worldO w.params u1 u2 u3 u4 u5 u6 u7 ob ce va ba .none lm lt) ∈ news)
   (h : ∀ h' tk', Fr h₀ L h' m → News h₀ L h' news → Q (.ref ba) { s with heap := h', toks := tk' }) :
   wpAny (model PySem.Challenge.rw_ok0067_01.row.prog w) A (call (.ref 467) [.ref W]) Q E s := by
  have hs : ∀ p ∈ [(W, instObj 484 dW), (dW, worldO w.params u1 u2 u3 u4 u5 u6 u7 ob ce va ba .none lm lt)], p ∈ news := by simp [m1, m2]
  have N1 := news_sub N hs
  clear m1 m2
  k_extra "my_enter"
  k_steps
  refine back_same (by assumption) (by assumption) (fun _ h => h) N hs ?_
  intro F N
  exact h _ _ F N
theorem own_bare {W dW ob ce va ba b db : Addr} {u1 u2 u3 u4 u5 u6 u7 : Tok} {es : List DictEntry} {n : Nat} {lm : Int} {lt : Tok} {Q : Value → Shared → Prop}
   (F : Fr h₀ L s.heap m) (N : News h₀ L s.heap news) (X : (hd.heap_1 w.params).In h₀) (T : TopRead p loose mg mb h₀) (hr : A.depth + 1 < recursionLimit)
   (m1 : (W, instObj 484 dW) ∈ news) (m2 : (dW, worldO w.params u1 u2 u3 u4 u5 u6 u7 ob ce va ba (.ref b) lm lt) ∈ news) (m3 : (b, instObj 751 db) ∈ news) (m4 : (db, dictOf es n) ∈ news) (hb : getL "locals" es = some (some .none))
   (h : ∀ h' tk', Fr h₀ L h' m → News h₀ L h' news → Q (.ref ba) { s with heap := h', toks := tk' }) :
   wpAny (model PySem.Challenge.rw_ok0067_01.row.prog w) A (call (.ref 467) [.ref W]) Q E s := by
  have hs : ∀ p ∈ [(W, instObj 484 dW), (dW, worldO w.params u1 u2 u3 u4 u5 u6 u7 ob ce va ba (.ref b) lm lt), (b, instObj 751 db), (db, dictOf es n)], p ∈ news := by simp [m1, m2, m3, m4]
  have N1 := news_sub N hs
  clear m1 m2 m3 m4
  k_extra "my_enter"
  k_steps
  refine back_same (by assumption) (by assumption) (fun _ h => h) N hs ?_
  intro F N
  exact h _ _ F N
theorem own_own {W dW ob ce va ba b db lo : Addr} {u1 u2 u3 u4 u5 u6 u7 : Tok} {es : List DictEntry} {n : Nat} {lm : Int} {lt : Tok} {Q : Value → Shared → Prop}
   (F : Fr h₀ L s.heap m) (N : News h₀ L s.heap news) (X : (hd.heap_1 w.params).In h₀) (T : TopRead p loose mg mb h₀) (hr : A.depth + 1 < recursionLimit)
   (m1 : (W, instObj 484 dW) ∈ news) (m2 : (dW, worldO w.params u1 u2 u3 u4 u5 u6 u7 ob ce va ba (.ref b) lm lt) ∈ news) (m3 : (b, instObj 751 db) ∈ news) (m4 : (db, dictOf es n) ∈ news) (hb : getL "locals" es = some (some (.ref lo)))
   (h : ∀ h' tk', Fr h₀ L h' m → News h₀ L h' news → Q (.ref lo) { s with heap := h', toks := tk' }) :
   wpAny (model PySem.Challenge.rw_ok0067_01.row.prog w) A (call (.ref 467) [.ref W]) Q E s := by
  have hs : ∀ p ∈ [(W, instObj 484 dW), (dW, worldO w.params u1 u2 u3 u4 u5 u6 u7 ob ce va ba (.ref b) lm lt), (b, instObj 751 db), (db, dictOf es n)], p ∈ news := by simp [m1, m2, m3, m4]
  have N1 := news_sub N hs
  clear m1 m2 m3 m4
  k_extra "my_enter"
  k_steps
  refine back_same (by assumption) (by assumption) (fun _ h => h) N hs ?_
  intro F N
  exact h _ _ F N
theorem fresh_marker_c {W dW ob ce va ba : Addr} {u1 u2 u3 u4 u5 u6 u7 : Tok} {cur : Value} {lm : Int} {lt : Tok} {Q : Value → Shared → Prop}
   (F : Fr h₀ L s.heap m) (N : News h₀ L s.heap news) (X : (hd.heap_1 w.params).In h₀) (T : TopRead p loose mg mb h₀) (hr : A.depth + 1 < recursionLimit)
   (m1 : (W, instObj 484 dW) ∈ news) (m2 : (dW, worldO w.params u1 u2 u3 u4 u5 u6 u7 ob ce va ba cur lm lt) ∈ news) (ND : [W, dW].Nodup) (h0 : 0 ≤ lm) (h1 : lm ≤ 1000)
   (h : ∀ h' tk' t1 t2, Fr h₀ L h' m → h'.get? dW = some (worldO w.params u1 u2 u3 u4 u5 u6 u7 ob ce va ba cur (lm + 1) t1) → But s.heap h' dW → Q (.int (lm + 1) t2) { s with heap := h', toks := tk' }) :
   wpAny (model PySem.Challenge.rw_ok0067_01.row.prog w) A (call (.ref 474) [.ref W]) Q E s := by
  have hs : ∀ p ∈ [(W, instObj 484 dW), (dW, worldO w.params u1 u2 u3 u4 u5 u6 u7 ob ce va ba cur lm lt)], p ∈ news := by simp [m1, m2]
  have N1 := news_sub N hs
  clear m1 m2
  k_extra "my_enter"
  k_steps
  refine back_but (d := dW) N1 (by assumption) (by assumption) (by k_extra "mem") (by k_extra "sub_but") ?_
  intro F ho B
  exact h _ _ _ _ F ho B
end
abbrev subO (P : Params) (t1 t2 t3 t4 t5 : Tok) (num : Value) (name : PySem.Str) (tm : Tok) (a b : Value) : Obj := dictOf [ent P "number" t1 num, ent P "name" t2 (.str name tm), ent P "least" t3 a, ent P "most" t4 b, ent P "deed" t5 .none] 5
theorem words9 : True := by
  k_with "call ref" => ((k_here; (with_reducible show wpAny _ _ (call (Value.ref 460) _) _ _ _); k_dflt (refine' symbol_old ?q24F ?q24N ?q24X ?q24T ?q24r ?q24m1 ?q24m2 ?q24m3 ?q24m4 ?q24m5 ?q24lo ?q24hd ?q24hk ?_; (case q24F => k_asm); (case q24N => k_asm); (case q24X => k_asm); (case q24T => k_asm); (case q24r => k_room); (case q24m1 => k_mem); (case q24m2 => k_mem); (case q24m3 => k_mem); (case q24m4 => k_mem); (case q24m5 => k_mem); (case q24lo => k_asm); (case q24hd => k_asm); (case q24hk => (first | with_reducible assumption | exact namesK_nil _ | exact namesK_t _)); k_whole); (intro z9h' z9tk' z9F' z9N'); (try k_sweep)))
  k_with "call ref" => ((k_here; (with_reducible show wpAny _ _ (call (Value.ref 460) _) _ _ _); k_dflt (refine' symbol_new ?q24F ?q24N ?q24X ?q24T ?q24r ?q24m1 ?q24m2 ?q24m3 ?q24m4 ?q24m5 ?q24m6 ?q24nd ?q24lo ?q24hd ?q24hk ?q24hz ?q24hz2 ?_; (case q24F => k_asm); (case q24N => k_asm); (case q24X => k_asm); (case q24T => k_asm); (case q24r => k_room); (case q24m1 => k_mem); (case q24m2 => k_mem); (case q24m3 => k_mem); (case q24m4 => k_mem); (case q24m5 => k_mem); (case q24m6 => k_mem); (case q24nd => (k_extra "sublist")); (case q24lo => k_asm); (case q24hd => k_asm); (case q24hk => (with_reducible assumption)); (case q24hz => omega); (case q24hz2 => omega); k_whole); (intro z9h' z9tk' z9o' z9y' z9F' z9ho' z9ho2' z9hd' z9B' z9W' z9hyk' z9hyn'); (have z9cN := chg2_sy (by k_asm) (by assumption) (by assumption) (by k_extra "sub") z9B' z9ho' z9ho2' (by k_extra "chg") (by k_extra "chg") z9W'); (obtain ⟨z9N', z9ND'⟩ := z9cN); (try k_sweep); (obtain ⟨z9ya, z9yda, z9yt1, z9yt2, z9ytn, z9ytm, z9yk, z9yname⟩ := z9y'); (dsimp only at *); (subst z9hyk'); (subst z9hyn')))
  k_with "call ref" => ((k_here; (with_reducible show wpAny _ _ (call (Value.ref 467) _) _ _ _); k_dflt (refine' own_own ?q24F ?q24N ?q24X ?q24T ?q24r ?q24m1 ?q24m2 ?q24m3 ?q24m4 ?q24hb ?_; (case q24F => k_asm); (case q24N => k_asm); (case q24X => k_asm); (case q24T => k_asm); (case q24r => k_room); (case q24m1 => k_mem); (case q24m2 => k_mem); (case q24m3 => k_mem); (case q24m4 => k_mem); (case q24hb => k_get); k_whole); (intro z9h' z9tk' z9F' z9N'); (try k_sweep)))
  k_with "call ref" => ((k_here; (with_reducible show wpAny _ _ (call (Value.ref 467) _) _ _ _); k_dflt (refine' own_bare ?q24F ?q24N ?q24X ?q24T ?q24r ?q24m1 ?q24m2 ?q24m3 ?q24m4 ?q24hb ?_; (case q24F => k_asm); (case q24N => k_asm); (case q24X => k_asm); (case q24T => k_asm); (case q24r => k_room); (case q24m1 => k_mem); (case q24m2 => k_mem); (case q24m3 => k_mem); (case q24m4 => k_mem); (case q24hb => k_get); k_whole); (intro z9h' z9tk' z9F' z9N'); (try k_sweep)))
  k_with "call ref" => ((k_here; (with_reducible show wpAny _ _ (call (Value.ref 467) _) _ _ _); k_dflt (refine' own_none ?q24F ?q24N ?q24X ?q24T ?q24r ?q24m1 ?q24m2 ?_; (case q24F => k_asm); (case q24N => k_asm); (case q24X => k_asm); (case q24T => k_asm); (case q24r => k_room); (case q24m1 => k_mem); (case q24m2 => k_mem); k_whole); (intro z9h' z9tk' z9F' z9N'); (try k_sweep)))
  k_with "call ref" => ((k_here; (with_reducible show wpAny _ _ (call (Value.ref 474) _) _ _ _); k_dflt (refine' fresh_marker_c ?q24F ?q24N ?q24X ?q24T ?q24r ?q24m1 ?q24m2 ?q24nd ?q24h0 ?q24h1 ?_; (case q24F => k_asm); (case q24N => k_asm); (case q24X => k_asm); (case q24T => k_asm); (case q24r => k_room); (case q24m1 => k_mem); (case q24m2 => k_mem); (case q24nd => (k_extra "sublist")); (case q24h0 => omega); (case q24h1 => omega); k_whole); (intro z9h' z9tk' z9t1' z9t2' z9F' z9ho' z9B'); (have z9cN := chg_news (by assumption) (by assumption) (by k_extra "sub") z9B' z9ho' (by k_extra "chg")); (obtain ⟨z9N', z9ND'⟩ := z9cN); (try k_sweep)))
  k_with "call ref" => ((k_here; (with_reducible show wpAny _ _ (call (Value.ref 432) _) _ _ _); k_dflt (refine' value_in_c ?q24F ?q24N ?q24X ?q24T ?q24r ?q24m1 ?q24m2 ?q24m3 ?q24m4 ?q24m5 ?q24m6 ?q24l1 ?q24l2 ?q24hd1 ?q24hd2 ?q24hx ?_; (case q24F => k_asm); (case q24N => k_asm); (case q24X => k_asm); (case q24T => k_asm); (case q24r => k_room); (case q24m1 => k_mem); (case q24m2 => k_mem); (case q24m3 => k_mem); (case q24m4 => k_mem); (case q24m5 => k_mem); (case q24m6 => k_mem); (case q24l1 => k_asm); (case q24l2 => k_asm); (case q24hd1 => k_asm); (case q24hd2 => k_asm); (case q24hx => (first | with_reducible assumption | rfl)); k_whole); (intro z9h' z9tk' z9F' z9N'); (try k_sweep)))
  k_with "call ref" => ((k_here; (with_reducible show wpAny _ _ (call (Value.ref 439) _) _ _ _); k_dflt (refine' set_in_local ?q24F ?q24N ?q24X ?q24T ?q24r ?q24m1 ?q24m2 ?q24m3 ?q24nd ?q24l2 ?q24hd2 ?q24hk ?q24hz ?_; (case q24F => k_asm); (case q24N => k_asm); (case q24X => k_asm); (case q24T => k_asm); (case q24r => k_room); (case q24m1 => k_mem); (case q24m2 => k_mem); (case q24m3 => k_mem); (case q24nd => (k_extra "sublist")); (case q24l2 => k_asm); (case q24hd2 => k_asm); (case q24hk => (with_reducible assumption)); (case q24hz => omega); k_whole); (intro z9h' z9tk' z9o' z9F' z9ho' z9hd' z9B'); (have z9cN := chg_news (by assumption) (by assumption) (by k_extra "sub") z9B' z9ho' (by k_extra "chg")); (obtain ⟨z9N', z9ND'⟩ := z9cN); (try k_sweep)))
  k_with "call ref" => ((k_here; (with_reducible show wpAny _ _ (call (Value.ref 439) _) _ _ _); k_dflt (refine' set_in_default ?q24F ?q24N ?q24X ?q24T ?q24r ?q24m1 ?q24m2 ?q24m3 ?q24m7 ?q24m4 ?q24m5 ?q24m6 ?q24nd ?q24l2 ?q24l3 ?q24hd1 ?q24hd3 ?q24hd2 ?q24hk ?q24hka ?q24hz ?_; (case q24F => k_asm); (case q24N => k_asm); (case q24X => k_asm); (case q24T => k_asm); (case q24r => k_room); (case q24m1 => k_mem); (case q24m2 => k_mem); (case q24m3 => k_mem); (case q24m7 => k_mem); (case q24m4 => k_mem); (case q24m5 => k_mem); (case q24m6 => k_mem); (case q24nd => (k_extra "sublist")); (case q24l2 => k_asm); (case q24l3 => k_asm); (case q24hd1 => k_asm); (case q24hd3 => k_asm); (case q24hd2 => k_asm); (case q24hk => (with_reducible assumption)); (case q24hka => (first | k_asm | rfl)); (case q24hz => omega); k_whole); (intro z9h' z9tk' z9o' z9F' z9ho' z9hd' z9B'); (have z9cN := chg_news (by assumption) (by assumption) (by k_extra "sub") z9B' z9ho' (by k_extra "chg")); (obtain ⟨z9N', z9ND'⟩ := z9cN); (try k_sweep)))
  k_with "call ref" => ((k_here; (with_reducible show wpAny _ _ (call (Value.ref 404) _) _ _ _); k_dflt (refine' make_local_new ?q24F ?q24N ?q24X ?q24T ?q24r ?q24m1 ?q24m2 ?q24m3 ?q24m4 ?q24m5 ?q24m6 ?q24nd ?q24l1 ?q24l2 ?q24hd1 ?q24hd2 ?q24hk ?q24hz ?_; (case q24F => k_asm); (case q24N => k_asm); (case q24X => k_asm); (case q24T => k_asm); (case q24r => k_room); (case q24m1 => k_mem); (case q24m2 => k_mem); (case q24m3 => k_mem); (case q24m4 => k_mem); (case q24m5 => k_mem); (case q24m6 => k_mem); (case q24nd => (k_extra "sublist")); (case q24l1 => k_asm); (case q24l2 => k_asm); (case q24hd1 => k_asm); (case q24hd2 => k_asm); (case q24hk => (with_reducible assumption)); (case q24hz => omega); k_whole); (intro z9h' z9tk' z9o' z9F' z9ho' z9hd' z9B'); (have z9cN := chg_news (by assumption) (by assumption) (by k_extra "sub") z9B' z9ho' (by k_extra "chg")); (obtain ⟨z9N', z9ND'⟩ := z9cN); (try k_sweep)))
  trivial
section
variable {w : World} {A : Around} {E : Value → Shared → Prop} {s : Shared} {L : Addr} {h₀ : Heap} {m mg mb : Str → Option Value}
  {news : List (Addr × Obj)} {p : Program} {loose : List Str}
theorem set_function_c {ce dce fn pl f df : Addr} {t1 t2 u1 u2 u3 u4 u5 u6 : Tok} {y : Sy} {num fa fb : Value} {name : PySem.Str} {o : Obj} {kvs : List (Int × Value)} {Q : Value → Shared → Prop}
   (F : Fr h₀ L s.heap m) (N : News h₀ L s.heap news) (X : (hd.heap_1 w.params).In h₀) (T : TopRead p loose mg mb h₀) (hr : A.depth + 1 < recursionLimit)
   (m1 : (ce, instObj 225 dce) ∈ news) (m2 : (dce, cellsO w.params t1 t2 fn pl) ∈ news) (m3 : (fn, o) ∈ news) (m4 : (y.a, instObj 58 y.da) ∈ news) (m5 : (y.da, symO w.params y.t1 y.t2 y.k y.tn y.name y.tm) ∈ news)
   (m6 : (f, instObj 106 df) ∈ news) (m7 : (df, subO w.params u1 u2 u3 u4 u5 num name u6 fa fb) ∈ news)
   (ND : [ce, dce, fn].Nodup) (n1 : fn ≠ y.a) (n2 : fn ≠ y.da) (n3 : fn ≠ f) (n4 : fn ≠ df) (hd' : o.IsDictOf (PySem.intKind PySem.Challenge.rw_ok0067_01.row.prog w) kvs) (hz : kvs.length ≤ 1000)
   (h : ∀ h' tk' o', Fr h₀ L h' m → h'.get? fn = some o' → o'.IsDictOf (PySem.intKind PySem.Challenge.rw_ok0067_01.row.prog w) (stored kvs y.k (.ref f)) → But s.heap h' fn → Q .none { s with heap := h', toks := tk' }) :
   wpAny (model PySem.Challenge.rw_ok0067_01.row.prog w) A (call (.ref 180) [.ref ce, .ref y.a, .ref f]) Q E s := by
  have hs : ∀ p ∈ [(ce, instObj 225 dce), (dce, cellsO w.params t1 t2 fn pl), (fn, o), (y.a, instObj 58 y.da), (y.da, symO w.params y.t1 y.t2 y.k y.tn y.name y.tm), (f, instObj 106 df), (df, subO w.params u1 u2 u3 u4 u5 num name u6 fa fb)], p ∈ news := by simp [m1, m2, m3, m4, m5, m6, m7]
  have N1 := news_sub N hs
  clear m1 m2 m3 m4 m5 m6 m7
  k_extra "my_enter"
  k_steps
  rename Obj.IsDictOf _ _ (stored _ _ _) => hd9
  refine back_but (d := fn) N1 (by assumption) (by assumption) (by k_extra "mem") (by k_extra "sub_but") ?_
  intro F ho B
  exact h _ _ _ F ho hd9 B
end
section
variable {prog : Program} {w : World} {A : Around} {E : Value → Shared → Prop} {s : Shared} {h₀ : Heap} {L D : Addr} {m : Str → Option Value} {news news' : List (Addr × Obj)} {us : List Value} {n : Nat}
theorem my_tail_ints {ns : List Int} {value slice : PySem.Expr} {k : Int} {u : Tok} {Q : Value → Shared → Prop} (N : News h₀ L s.heap news) (hm : (D, listOf us.toArray n) ∈ news) (hI : IntsAre us ns) (h0 : 0 ≤ k) (hl : k < (us.length : Int)) (hf : us.length ≤ 1000) (h : ∀ i t, Q (.int i t) s)
    (hs : subscripted slice false (.ref D) (.int k u) = operate [.ref D, .int k u] (getItem (.ref D) (.int k u)) := by with_unfolding_all rfl) : wpAny (model prog w) A (subscriptTail value slice (.ref D) (.int k u)) Q E s := by
  have hlt : k.toNat < ns.length := by rw [← hI.length]; omega
  obtain ⟨t, ht⟩ := hI.get k.toNat ns[k.toNat] (by simp [hlt])
  exact my_tail N hm h0 (by omega) ht (h _ _) hs
end
theorem upd_news {h₀ h h' : Heap} {L d : Addr} {o o' : Obj} {l : List (Addr × Obj)} {g : Obj → List (Addr × Obj)} (N : News h₀ L h l) (B : But h h' d) (ho : h'.get? d = some o') (U : UpdF d o l g) : News h₀ L h' (g o') := by
  obtain ⟨pre, post, rfl, hg, a, b⟩ := U.split
  rw [hg]
  intro p hp
  rcases List.mem_append.mp hp with q | q
  · have z := N p (List.mem_append_left _ q)
    exact ⟨B _ _ (a p q) z.1, z.2⟩
  · rcases List.mem_cons.mp q with rfl | q
    · exact ⟨ho, (N (d, o) (List.mem_append_right _ (.head _))).2⟩
    · have z := N p (List.mem_append_right _ (.tail _ q))
      exact ⟨B _ _ (b p q) z.1, z.2⟩
theorem words10 : True := by
  k_with "call ref" => ((k_here; (with_reducible show wpAny _ _ (call (Value.ref 180) _) _ _ _); k_dflt (refine' set_function_c ?q24F ?q24N ?q24X ?q24T ?q24r ?q24m1 ?q24m2 ?q24m3 ?q24m4 ?q24m5 ?q24m6 ?q24m7 ?q24nd ?q24n1 ?q24n2 ?q24n3 ?q24n4 ?q24hd ?q24hz ?_; (case q24F => k_asm); (case q24N => k_asm); (case q24X => k_asm); (case q24T => k_asm); (case q24r => k_room); (case q24m1 => k_mem); (case q24m2 => k_mem); (case q24m3 => k_mem); (case q24m4 => k_mem); (case q24m5 => k_mem); (case q24m6 => k_mem); (case q24m7 => k_mem); (case q24nd => (k_extra "sublist")); (case q24n1 => (k_extra "nd")); (case q24n2 => (k_extra "nd")); (case q24n3 => (first | k_extra "nd" | omega)); (case q24n4 => (first | k_extra "nd" | omega)); (case q24hd => k_asm); (case q24hz => omega); k_whole); (intro z9h' z9tk' z9o' z9F' z9ho' z9hd' z9B'); (have z9N' := upd_news (by k_asm) z9B' z9ho' (by k_updF)); (try dsimp only at z9N'); (try k_sweep)))
  k_with "subscriptTail" => ((k_here; (with_reducible show wpAny _ _ (subscriptTail _ _ (Value.ref _) (Value.int _ _)) _ _ _); k_dflt (refine my_tail_ints (by k_asm) (by k_mem) (by k_asm) (by omega) (by omega) (by k_asm) ?_); intro z9i9' z9t9'))
  k_with "my pyIter" => ((k_here; (with_reducible show wpAny _ _ (pyIter (Value.ref _)) (fun it s₂ => LoopAtV _ _ _ _ _ _ _ _ _ it s₂) _ _); (rename Fr _ _ _ _ => z9lF'); with_unfolding_all (refine' iter_listUnr ?q32hh z9lF' ?q32N ?q32m ?q32c ?q32d ?_; (case q32hh => first | rfl | assumption); (case q32N => k_asm); (case q32m => k_mem); (case q32c => rfl); (case q32d => rfl)); clear z9lF'; intro z9i' z9l1; (try k_lt z9l1)))
  k_with "subscriptTail" => ((k_here; (with_reducible show wpAny _ _ (subscriptTail _ _ (Value.ref _) (Value.str _ _)) _ _ _); k_dflt (refine kda_item (knd := PySem.strKind _ _) (by k_asm) (by k_mem) (by k_asm) (strKind_is _ _ _ _) (by first | k_asm | rfl) ?_)))
  trivial
section
variable {w : World} {A : Around} {E : Value → Shared → Prop} {s : Shared} {L : Addr} {h₀ : Heap} {m mg mb : Str → Option Value}
  {news : List (Addr × Obj)} {p : Program} {loose : List Str}
theorem put_functions_c {W dW ob ce va ba dob rw nm dce fn pl fl f df : Addr} {u1 u2 u3 u4 u5 u6 u7 t1 t2 t3 t4 v1 v2 v3 v4 v5 v6 : Tok} {cur : Value} {lm : Int} {lt : Tok} {y : Sy} {num fa fb : Value} {nf : Nat} {o o2 : Obj} {kvs : List (PySem.Str × Value)} {fvs : List (Int × Value)} {Q : Value → Shared → Prop}
   (F : Fr h₀ L s.heap m) (N : News h₀ L s.heap news) (X : (hd.heap_1 w.params).In h₀) (T : TopRead p loose mg mb h₀) (hr : A.depth + 4 < recursionLimit)
   (m1 : (W, instObj 484 dW) ∈ news) (m2 : (dW, worldO w.params u1 u2 u3 u4 u5 u6 u7 ob ce va ba cur lm lt) ∈ news)
   (m3 : (ob, instObj 302 dob) ∈ news) (m4 : (dob, obO w.params t1 t2 rw nm) ∈ news) (m5 : (nm, o) ∈ news)
   (m6 : (ce, instObj 225 dce) ∈ news) (m7 : (dce, cellsO w.params t3 t4 fn pl) ∈ news) (m8 : (fn, o2) ∈ news) (m9 : (y.a, instObj 58 y.da) ∈ news) (m10 : (y.da, symO w.params y.t1 y.t2 y.k y.tn y.name y.tm) ∈ news)
   (m11 : (fl, listOf [Value.ref f].toArray nf) ∈ news) (m12 : (f, instObj 106 df) ∈ news) (m13 : (df, subO w.params v1 v2 v3 v4 v5 num y.name v6 fa fb) ∈ news)
   (ND : [W, dW, ob, dob, nm, ce, dce, fn].Nodup) (n1 : fn ≠ y.a) (n2 : fn ≠ y.da) (n3 : fn ≠ f) (n4 : fn ≠ df) (n5 : fn ≠ fl)
   (lo : (nm == sysModules) = false) (hd' : o.IsDictOf (PySem.strKind PySem.Challenge.rw_ok0067_01.row.prog w) kvs) (hk : valueAt kvs y.name = some (.ref y.a))
   (hd2 : o2.IsDictOf (PySem.intKind PySem.Challenge.rw_ok0067_01.row.prog w) fvs) (hz : fvs.length ≤ 1000) (hA : A.handled = none)
   (h : ∀ h' tk' o', Fr h₀ L h' m → h'.get? fn = some o' → o'.IsDictOf (PySem.intKind PySem.Challenge.rw_ok0067_01.row.prog w) (stored fvs y.k (.ref f)) → But s.heap h' fn → Q .none { s with heap := h', toks := tk' }) :
   wpAny (model PySem.Challenge.rw_ok0067_01.row.prog w) A (call (.ref 481) [.ref W, .ref fl]) Q E s := by
  have hs : ∀ p ∈ [(W, instObj 484 dW), (dW, worldO w.params u1 u2 u3 u4 u5 u6 u7 ob ce va ba cur lm lt), (ob, instObj 302 dob), (dob, obO w.params t1 t2 rw nm), (nm, o),
     (ce, instObj 225 dce), (dce, cellsO w.params t3 t4 fn pl), (fn, o2), (y.a, instObj 58 y.da), (y.da, symO w.params y.t1 y.t2 y.k y.tn y.name y.tm), (fl, listOf [Value.ref f].toArray nf), (f, instObj 106 df), (df, subO w.params v1 v2 v3 v4 v5 num y.name v6 fa fb)], p ∈ news := by
     simp [m1, m2, m3, m4, m5, m6, m7, m8, m9, m10, m11, m12, m13]
  have N1 := news_sub N hs
  clear m1 m2 m3 m4 m5 m6 m7 m8 m9 m10 m11 m12 m13
  k_extra "my_enter"
  k_steps
  rename Obj.IsDictOf _ _ (stored _ _ _) => hd9
  refine back_but (d := fn) N1 (by assumption) (by assumption) (by k_extra "mem") (by k_extra "sub_but") ?_
  intro F ho B
  exact h _ _ _ F ho hd9 B
theorem dip_c {P xs : Addr} {us : List Value} {ns : List Int} {n1 n2 : Nat} {c sd many : Int} {ta ts tm : Tok} {Q : Value → Shared → Prop}
   (F : Fr h₀ L s.heap m) (N : News h₀ L s.heap news) (X : (hd.heap_1 w.params).In h₀) (T : TopRead p loose mg mb h₀) (hr : A.depth + 1 < recursionLimit)
   (m1 : (P, listOf [Value.ref xs, .int c ta, .int sd ts].toArray n1) ∈ news) (m2 : (xs, listOf us.toArray n2) ∈ news) (ND : [P, xs].Nodup)
   (hI : IntsAre us ns) (hz : us.length ≤ 1000) (h0 : 0 ≤ c) (h1 : c ≤ 1000) (s0 : 0 ≤ sd) (s1 : sd ≤ 70000) (hm : 0 < many) (hm2 : many ≤ 100)
   (h : ∀ h' tk' r tr n1' sd' ta' ts', Fr h₀ L h' m → h'.get? P = some (listOf [Value.ref xs, .int (c + 1) ta', .int sd' ts'].toArray n1') → But s.heap h' P → 0 ≤ r → r < many → 0 ≤ sd' → sd' ≤ 70000 → Q (.int r tr) { s with heap := h', toks := tk' }) :
   wpAny (model PySem.Challenge.rw_ok0067_01.row.prog w) A (call (.ref 765) [.ref P, .int many tm]) Q E s := by
  have hs : ∀ p ∈ [(P, listOf [Value.ref xs, .int c ta, .int sd ts].toArray n1), (xs, listOf us.toArray n2)], p ∈ news := by simp [m1, m2]
  have N1 := news_sub N hs
  clear m1 m2
  k_extra "my_enter"
  k_steps
  · rename Int => i9
    have f9 := Int.fmod_nonneg_of_pos i9 hm
    have g9 := Int.fmod_lt_of_pos i9 hm
    refine back_but (d := P) N1 (by assumption) (by assumption) (by k_extra "mem") (by k_extra "sub_but") ?_
    intro F ho B
    exact h _ _ _ _ _ _ _ _ F ho B f9 g9 s0 s1
  · have f9 := Int.fmod_nonneg_of_pos ((sd * 75 + 74).fmod 65537) hm
    have g9 := Int.fmod_lt_of_pos ((sd * 75 + 74).fmod 65537) hm
    have f8 := Int.fmod_nonneg_of_pos (sd * 75 + 74) (show (0 : Int) < 65537 by decide)
    have g8 := Int.fmod_lt_of_pos (sd * 75 + 74) (show (0 : Int) < 65537 by decide)
    refine back_but (d := P) N1 (by assumption) (by assumption) (by k_extra "mem") (by k_extra "sub_but") ?_
    intro F ho B
    exact h _ _ _ _ _ _ _ _ F ho B f9 g9 f8 (by omega)
end
section
variable {w : World} {A : Around} {E : Value → Shared → Prop} {s : Shared} {L : Addr} {h₀ : Heap} {m mg mb : Str → Option Value}
  {news : List (Addr × Obj)} {p : Program} {loose : List Str}
theorem place_own {H : Addr} {t : Tok} {o : Obj} {kvs : List (PySem.Str × Value)} {c : Int} {Q : Value → Shared → Prop}
   (F : Fr h₀ L s.heap m) (N : News h₀ L s.heap news) (X : (hd.heap_1 w.params).In h₀) (T : TopRead p loose mg mb h₀) (hr : A.depth + 1 < recursionLimit)
   (m1 : (H, o) ∈ news) (hd' : o.IsDictOf (PySem.strKind PySem.Challenge.rw_ok0067_01.row.prog w) kvs) (lo : (H == sysModules) = false)
   (hk : valueAt kvs "current" = some (.int c t)) (hc : c = 2)
   (h : ∀ h' tk' t', Fr h₀ L h' m → News h₀ L h' news → Q (.str "own" t') { s with heap := h', toks := tk' }) :
   wpAny (model PySem.Challenge.rw_ok0067_01.row.prog w) A (call (.ref 772) [.ref H]) Q E s := by
  have hs : ∀ p ∈ [(H, o)], p ∈ news := by simp [m1]
  have N1 := news_sub N hs
  clear m1
  k_extra "my_enter"
  k_steps
  all_goals (try (exfalso; omega))
  refine back_same (by assumption) (by assumption) (fun _ h => h) N hs ?_
  intro F N
  exact h _ _ _ F N
theorem place_bare {H : Addr} {t : Tok} {o : Obj} {kvs : List (PySem.Str × Value)} {c : Int} {Q : Value → Shared → Prop}
   (F : Fr h₀ L s.heap m) (N : News h₀ L s.heap news) (X : (hd.heap_1 w.params).In h₀) (T : TopRead p loose mg mb h₀) (hr : A.depth + 1 < recursionLimit)
   (m1 : (H, o) ∈ news) (hd' : o.IsDictOf (PySem.strKind PySem.Challenge.rw_ok0067_01.row.prog w) kvs) (lo : (H == sysModules) = false)
   (hk : valueAt kvs "current" = some (.int c t)) (hc : c ≠ 2)
   (h : ∀ h' tk' t', Fr h₀ L h' m → News h₀ L h' news → Q (.str "bare" t') { s with heap := h', toks := tk' }) :
   wpAny (model PySem.Challenge.rw_ok0067_01.row.prog w) A (call (.ref 772) [.ref H]) Q E s := by
  have hs : ∀ p ∈ [(H, o)], p ∈ news := by simp [m1]
  have N1 := news_sub N hs
  clear m1
  k_extra "my_enter"
  k_steps
  all_goals (try (exfalso; omega))
  refine back_same (by assumption) (by assumption) (fun _ h => h) N hs ?_
  intro F N
  exact h _ _ _ F N
end
theorem words11 : True := by
  k_with "call ref" => ((k_here; (with_reducible show wpAny _ _ (call (Value.ref 772) _) _ _ _); k_dflt (refine' place_own ?q24F ?q24N ?q24X ?q24T ?q24r ?q24m1 ?q24hd ?q24lo ?q24hk ?q24hc ?_; (case q24F => k_asm); (case q24N => k_asm); (case q24X => k_asm); (case q24T => k_asm); (case q24r => k_room); (case q24m1 => k_mem); (case q24hd => k_asm); (case q24lo => k_asm); (case q24hk => (first | with_reducible assumption | rfl)); (case q24hc => (first | k_asm | omega)); k_whole); (intro z9h' z9tk' z9t' z9F' z9N'); (try k_sweep)))
  k_with "call ref" => ((k_here; (with_reducible show wpAny _ _ (call (Value.ref 772) _) _ _ _); k_dflt (refine' place_bare ?q24F ?q24N ?q24X ?q24T ?q24r ?q24m1 ?q24hd ?q24lo ?q24hk ?q24hc ?_; (case q24F => k_asm); (case q24N => k_asm); (case q24X => k_asm); (case q24T => k_asm); (case q24r => k_room); (case q24m1 => k_mem); (case q24hd => k_asm); (case q24lo => k_asm); (case q24hk => (first | with_reducible assumption | rfl)); (case q24hc => (first | k_asm | omega)); k_whole); (intro z9h' z9tk' z9t' z9F' z9N'); (try k_sweep)))
  trivial
section
variable {w : World} {A : Around} {E : Value → Shared → Prop} {s : Shared} {L : Addr} {h₀ : Heap} {m mg mb : Str → Option Value}
  {news : List (Addr × Obj)} {p : Program} {loose : List Str}
theorem value_own {H mi hde : Addr} {t tn : Tok} {o o2 o3 : Obj} {kvs lvs dvs : List (PySem.Str × Value)} {c : Int} {name : PySem.Str} {x : Value} {Q : Value → Shared → Prop}
   (F : Fr h₀ L s.heap m) (N : News h₀ L s.heap news) (X : (hd.heap_1 w.params).In h₀) (T : TopRead p loose mg mb h₀) (hr : A.depth + 2 < recursionLimit)
   (m1 : (H, o) ∈ news) (m2 : (mi, o2) ∈ news) (m3 : (hde, o3) ∈ news) (hd' : o.IsDictOf (PySem.strKind PySem.Challenge.rw_ok0067_01.row.prog w) kvs) (hd2 : o2.IsDictOf (PySem.strKind PySem.Challenge.rw_ok0067_01.row.prog w) lvs) (hd3 : o3.IsDictOf (PySem.strKind PySem.Challenge.rw_ok0067_01.row.prog w) dvs)
   (lo : (H == sysModules) = false) (lo2 : (mi == sysModules) = false) (lo3 : (hde == sysModules) = false)
   (hk : valueAt kvs "current" = some (.int c t)) (hc : c = 2) (hk2 : valueAt kvs "own" = some (.ref mi)) (hk3 : valueAt kvs "default" = some (.ref hde))
   (hx : (valueAt lvs name).getD ((valueAt dvs name).getD .none) = x)
   (h : ∀ h' tk', Fr h₀ L h' m → News h₀ L h' news → Q x { s with heap := h', toks := tk' }) :
   wpAny (model PySem.Challenge.rw_ok0067_01.row.prog w) A (call (.ref 779) [.ref H, .str name tn]) Q E s := by
  have hs : ∀ p ∈ [(H, o), (mi, o2), (hde, o3)], p ∈ news := by simp [m1, m2, m3]
  have N1 := news_sub N hs
  clear m1 m2 m3
  cases hv : valueAt lvs name with
  | none =>
    have hv2 : (valueAt lvs name).isSome = false := by rw [hv]; rfl
    rw [hv] at hx
    k_extra "my_enter"
    k_steps
    all_goals (try (exfalso; omega))
    refine back_same (by assumption) (by assumption) (fun _ h => h) N hs ?_
    intro F N
    subst hx
    exact h _ _ F N
  | some y9 =>
    have hv2 : (valueAt lvs name).isSome = true := by rw [hv]; rfl
    rw [hv] at hx
    k_extra "my_enter"
    k_steps
    all_goals (try (exfalso; omega))
    refine back_same (by assumption) (by assumption) (fun _ h => h) N hs ?_
    intro F N
    subst hx
    exact h _ _ F N
theorem value_bare {H mi hde : Addr} {t tn : Tok} {o o2 o3 : Obj} {kvs lvs dvs : List (PySem.Str × Value)} {c : Int} {name : PySem.Str} {x : Value} {Q : Value → Shared → Prop}
   (F : Fr h₀ L s.heap m) (N : News h₀ L s.heap news) (X : (hd.heap_1 w.params).In h₀) (T : TopRead p loose mg mb h₀) (hr : A.depth + 2 < recursionLimit)
   (m1 : (H, o) ∈ news) (m2 : (mi, o2) ∈ news) (m3 : (hde, o3) ∈ news) (hd' : o.IsDictOf (PySem.strKind PySem.Challenge.rw_ok0067_01.row.prog w) kvs) (hd2 : o2.IsDictOf (PySem.strKind PySem.Challenge.rw_ok0067_01.row.prog w) lvs) (hd3 : o3.IsDictOf (PySem.strKind PySem.Challenge.rw_ok0067_01.row.prog w) dvs)
   (lo : (H == sysModules) = false) (lo2 : (mi == sysModules) = false) (lo3 : (hde == sysModules) = false)
   (hk : valueAt kvs "current" = some (.int c t)) (hc : c ≠ 2) (hk2 : valueAt kvs "bare" = some (.ref mi)) (hk3 : valueAt kvs "default" = some (.ref hde))
   (hx : (valueAt lvs name).getD ((valueAt dvs name).getD .none) = x)
   (h : ∀ h' tk', Fr h₀ L h' m → News h₀ L h' news → Q x { s with heap := h', toks := tk' }) :
   wpAny (model PySem.Challenge.rw_ok0067_01.row.prog w) A (call (.ref 779) [.ref H, .str name tn]) Q E s := by
  have hs : ∀ p ∈ [(H, o), (mi, o2), (hde, o3)], p ∈ news := by simp [m1, m2, m3]
  have N1 := news_sub N hs
  clear m1 m2 m3
  cases hv : valueAt lvs name with
  | none =>
    have hv2 : (valueAt lvs name).isSome = false := by rw [hv]; rfl
    rw [hv] at hx
    k_extra "my_enter"
    k_steps
    all_goals (try (exfalso; omega))
    refine back_same (by assumption) (by assumption) (fun _ h => h) N hs ?_
    intro F N
    subst hx
    exact h _ _ F N
  | some y9 =>
    have hv2 : (valueAt lvs name).isSome = true := by rw [hv]; rfl
    rw [hv] at hx
    k_extra "my_enter"
    k_steps
    all_goals (try (exfalso; omega))
    refine back_same (by assumption) (by assumption) (fun _ h => h) N hs ?_
    intro F N
    subst hx
    exact h _ _ F N
end
end
theorem words12 : True := by
  k_with_none
  k_with "my_enter" => ((refine wpAny_call ?_; refine' code_foot ?q0k1 ?q0k2 ?q0k3 ?q0k4 ?q0k5 ?q0k6 ?q0k7 ?q0k8 _ ?q0kN ?_ ?q0c2 ?q0c3 ?q0c4 ?q0c5; (case q0k1 => k_asm); (case q0k2 => k_asm); (case q0k3 => k_asm); (case q0k4 => k_is); (case q0k5 => k_is); (case q0k6 => omega); (case q0k7 => first | exact BindsTo.of_eq rfl | exact binds_K (by k_in) rfl (by k_is) rfl rfl rfl); (case q0k8 => exact locs rfl); (case q0kN => assumption); (case q0c2 => exact rfl); (case q0c3 => exact rfl); (case q0c4 => exact rfl); (case q0c5 => decide); (intro z9g' z9L' z9h' z9F' z9N' z9X' z9T' z9l1 z9hgk); (try k_lt z9l1); dsimp only; (show wpAny _ _ _ _ _ _); k_fold))
  k_with "k_room" => (((try simp only [depth_under_make, depth_under_kw, depth_in1, depth_deeper]); omega))
  k_with "call builtin:dict.get" => ((k_here; k_dflt (first
  | refine kdg_get1 (knd := PySem.strKind _ _) (by k_asm) (by k_mem) (by k_asm) (by k_asm) (strKind_is _ _ _ _) _ (by first | k_asm | rfl) ?_
  | refine kdg_get2 (knd := PySem.strKind _ _) (by k_asm) (by k_mem) (by k_asm) (by k_asm) (strKind_is _ _ _ _) _ (by first | k_asm | rfl) ?_
  | refine kdg_get1 (knd := PySem.intKind _ _) (by k_asm) (by k_mem) (by k_asm) (by k_asm) (intKind_is _ _ _ _) _ (by first | k_asm | rfl) ?_
  | refine kdg_get2 (knd := PySem.intKind _ _) (by k_asm) (by k_mem) (by k_asm) (by k_asm) (intKind_is _ _ _ _) _ (by first | k_asm | rfl) ?_); (try dsimp only [Option.getD_some, Option.getD_none])))
  k_with "getMethod ref" => ((k_here; (with_reducible show wpAny _ _ (getMethod (Value.ref _) (Str.ofString "get") _) _ _ _); k_dflt (first
  | refine kdg_method (knd := PySem.strKind _ _) (by k_asm) (by k_mem) (by k_asm) ?_
  | refine kdg_method (knd := PySem.intKind _ _) (by k_asm) (by k_mem) (by k_asm) ?_)))
  k_with "compareOp In int ref" => ((k_here; k_dflt (refine kda_in (knd := PySem.intKind _ _) (by k_asm) (by k_mem) (by k_asm) (by k_asm) (intKind_is _ _ _ _) _ (by rfl) ?_)))
  k_with "compareOp In str ref" => ((k_here; k_dflt (refine kda_in (knd := PySem.strKind _ _) (by k_asm) (by k_mem) (by k_asm) (by k_asm) (strKind_is _ _ _ _) _ (by rfl) ?_)))
  k_with "compareOp NotIn int ref" => ((k_here; k_dflt (refine kdg_notin (knd := PySem.intKind _ _) (by k_asm) (by k_mem) (by k_asm) (by k_asm) (intKind_is _ _ _ _) _ (by rfl) ?_)))
  k_with "compareOp NotIn str ref" => ((k_here; k_dflt (refine kdg_notin (knd := PySem.strKind _ _) (by k_asm) (by k_mem) (by k_asm) (by k_asm) (strKind_is _ _ _ _) _ (by rfl) ?_)))
  k_with "nd1" => (first | (refine NdGoal.left ?_; k_mem) | (refine NdGoal.right ?_; k_mem) | (refine NdGoal.tail ?_; k_extra "nd1"))
  k_with "nd" => (first | assumption | exact Ne.symm (by assumption) | (refine' nd_start ?q10ND ?_; (case q10ND => assumption); k_extra "nd1"))
  k_with "k_ne" => ((refine neN ?_; (try dsimp only); k_extra "nd"))
  k_with "setItem ref int" => ((k_here; k_dflt (refine' kda_set (knd := PySem.intKind _ _) ?q12F ?q12N ?q12U ?q12d (intKind_is _ _ _ _) ?q12z ?_; (case q12F => k_asm); (case q12N => k_asm); (case q12U => k_updF); (case q12d => k_asm); (case q12z => rw [sizeLine_eq]; omega)); intro z9h' z9o' z9F' z9N' z9hd'; (try dsimp only at z9N'); (try k_sweep)))
  k_with "setItem ref str" => ((k_here; k_dflt (refine' kda_set (knd := PySem.strKind _ _) ?q13F ?q13N ?q13U ?q13d (strKind_is _ _ _ _) ?q13z ?_; (case q13F => k_asm); (case q13N => k_asm); (case q13U => k_updF); (case q13d => k_asm); (case q13z => rw [sizeLine_eq]; omega)); intro z9h' z9o' z9F' z9N' z9hd'; (try dsimp only at z9N'); (try k_sweep)))
  k_with "mem" => (first | exact List.Mem.head _ | (refine List.Mem.tail _ ?_; k_extra "mem"))
  k_with "sub_but" => ((refine' List.forall_mem_cons.mpr ⟨?q15a, ?q15b⟩; (case q15a => (intro z9hne; first | exact absurd rfl z9hne | k_extra "mem")); (case q15b => first | exact List.forall_mem_nil _ | k_extra "sub_but")))
  k_with "chg" => (first | exact Chg.head | (refine' Chg.tail ?q16c; (case q16c => k_extra "chg")))
  k_with "sub" => (first | exact (fun _ z9hp => z9hp) | (intro z9p z9hp; refine List.mem_cons_of_mem _ ?_; revert z9p; k_extra "sub"))
  k_with "call builtin:dict.pop" => ((k_here; k_dflt (first
  | (refine' my_pop1 (knd := PySem.intKind _ _) ?q18F ?q18N ?q18U ?q18d (intKind_is _ _ _ _) ?q18p ?q18l ?q18z ?_; (case q18F => k_asm); (case q18N => k_asm); (case q18U => k_updF); (case q18d => k_asm); (case q18p => rfl); (case q18l => k_asm); (case q18z => rw [sizeLine_eq]; omega); intro z9h' z9o' z9v' z9F' z9N' z9hd')
  | (refine' my_pop2 (knd := PySem.strKind _ _) ?q18F ?q18N ?q18U ?q18d ?q18lo (strKind_is _ _ _ _) ?q18p ?q18z ?_; (case q18F => k_asm); (case q18N => k_asm); (case q18U => k_updF); (case q18d => k_asm); (case q18lo => k_asm); (case q18p => rfl); (case q18z => rw [sizeLine_eq]; omega); intro z9h' z9o' z9v' z9tk' z9F' z9N' z9hd')); (try dsimp only at z9N'); (try k_sweep)))
  k_with "sub_but2" => ((refine' List.forall_mem_cons.mpr ⟨?q19a, ?q19b⟩; (case q19a => (intro z9hne z9hne2; first | exact absurd rfl z9hne | exact absurd rfl z9hne2 | k_extra "mem")); (case q19b => first | exact List.forall_mem_nil _ | k_extra "sub_but2")))
  trivial
section
def GoodV (v : Value) : Prop := v = .none ∨ ∃ i t, v = .int i t
section
variable {K : Type} [DecidableEq K]
theorem valueAt_cons (k : K) (v : Value) (r : List (K × Value)) (j : K) : valueAt ((k, v) :: r) j = if k = j then some v else valueAt r j := by
  unfold valueAt
  by_cases h : k = j
  · simp [h]
  · simp [h]
theorem valueAt_append (l r : List (K × Value)) (j : K) : valueAt (l ++ r) j = (valueAt l j).or (valueAt r j) := by
  induction l with
  | nil => simp [valueAt]
  | cons p l ih =>
    obtain ⟨k, v⟩ := p
    rw [List.cons_append, valueAt_cons, valueAt_cons, ih]
    by_cases h : k = j <;> simp [h]
theorem valueAt_map_set (kvs : List (K × Value)) (k j : K) (v : Value) : valueAt (kvs.map fun kv => if kv.1 = k then (kv.1, v) else kv) j = if j = k then (valueAt kvs j).map (fun _ => v) else valueAt kvs j := by
  induction kvs with
  | nil => simp [valueAt]
  | cons p l ih =>
    obtain ⟨a, u⟩ := p
    rw [List.map_cons, valueAt_cons]
    by_cases h : a = k
    · simp only [h, if_true]
      rw [valueAt_cons, ih]
      by_cases hj : k = j
      · simp [hj]
      · simp [hj, Ne.symm hj]
    · simp only [h, if_false]
      rw [valueAt_cons, ih]
      by_cases hj : a = j
      · have : ¬ j = k := fun e => h (hj.trans e)
        simp [hj, this]
      · simp [hj]
theorem valueAt_stored (kvs : List (K × Value)) (k j : K) (v : Value) : valueAt (stored kvs k v) j = if j = k then some v else valueAt kvs j := by
  unfold stored
  by_cases hk : kvs.any (fun kv => kv.1 = k) = true
  · rw [if_pos hk, valueAt_map_set]
    by_cases h : j = k
    · subst h
      have : (valueAt kvs j).isSome = true := by rw [valueAt_isSome_eq_any]; exact hk
      obtain ⟨u, hu⟩ := Option.isSome_iff_exists.mp this
      simp [hu]
    · simp [h]
  · rw [if_neg hk, valueAt_append]
    have hn : valueAt kvs k = none := by
      have := valueAt_isSome_eq_any kvs k
      rw [Bool.not_eq_true] at hk
      rw [hk] at this
      simpa using this
    by_cases h : j = k
    · subst h
      simp [hn, valueAt_cons]
    · simp [h, Ne.symm h, valueAt]
theorem valueAt_without (kvs : List (K × Value)) (k j : K) : valueAt (without kvs k) j = if j = k then none else valueAt kvs j := by
  unfold without
  induction kvs with
  | nil => simp [valueAt]
  | cons p l ih =>
    obtain ⟨a, u⟩ := p
    rw [valueAt_cons]
    by_cases h : a = k
    · rw [List.filter_cons_of_neg (by simp [h]), ih]
      by_cases hj : j = k
      · simp [hj]
      · have : ¬ a = j := fun e => hj (e.symm.trans h)
        simp [hj, this]
    · rw [List.filter_cons_of_pos (by simp [h]), valueAt_cons, ih]
      by_cases hj : a = j
      · have : ¬ j = k := fun e => h (hj.trans e)
        simp [hj, this]
      · simp [hj]
end
def Rel (syms : List Sy) (D : List (Int × Value)) (H : List (PySem.Str × Value)) : Prop :=
  (∀ y ∈ syms, valueAt D y.k = valueAt H y.name) ∧ (∀ k, (valueAt D k).isSome = true → ∃ y ∈ syms, y.k = k) ∧ (∀ n, (valueAt H n).isSome = true → ∃ y ∈ syms, y.name = n)
structure SymsOk (syms : List Sy) : Prop where
  num : ∀ (i : Nat) (y : Sy), syms[i]? = some y → y.k = (i : Int) + 2
  uniq : (syms.map (·.name)).Nodup
  nil : ∀ y ∈ syms, y.name ≠ "nil"
  t : ∀ y ∈ syms, y.name ≠ "t"
theorem SymsOk.of_k {syms : List Sy} (S : SymsOk syms) {y z : Sy} (hy : y ∈ syms) (hz : z ∈ syms) (e : y.k = z.k) : y = z := by
  obtain ⟨i, hi⟩ := List.getElem?_of_mem hy
  obtain ⟨j, hj⟩ := List.getElem?_of_mem hz
  have h1 := S.num i y hi
  have h2 := S.num j z hj
  have : i = j := by omega
  subst this
  exact Option.some.inj (hi.symm.trans hj)
theorem SymsOk.of_name {syms : List Sy} (S : SymsOk syms) {y z : Sy} (hy : y ∈ syms) (hz : z ∈ syms) (e : y.name = z.name) : y = z := by
  have u := S.uniq
  clear S
  induction syms with
  | nil => cases hy
  | cons x r ih =>
    rw [List.map_cons] at u
    have u' := List.nodup_cons.mp u
    rcases List.mem_cons.mp hy with hy1 | hy1
    · rcases List.mem_cons.mp hz with hz1 | hz1
      · rw [hy1, hz1]
      · exact absurd (by rw [← hy1, e]; exact List.mem_map_of_mem hz1) u'.1
    · rcases List.mem_cons.mp hz with hz1 | hz1
      · exact absurd (by rw [← hz1, ← e]; exact List.mem_map_of_mem hy1) u'.1
      · exact ih hy1 hz1 u'.2
theorem SymsOk.iff_k {syms : List Sy} (S : SymsOk syms) {y z : Sy} (hy : y ∈ syms) (hz : z ∈ syms) : (y.k = z.k) ↔ (y.name = z.name) :=
  ⟨fun e => by rw [S.of_k hy hz e], fun e => by rw [S.of_name hy hz e]⟩
theorem SymsOk.grow {syms : List Sy} (S : SymsOk syms) {y : Sy} (hk : y.k = (syms.length : Int) + 2) (hn : ∀ z ∈ syms, z.name ≠ y.name) (h1 : y.name ≠ "nil") (h2 : y.name ≠ "t") : SymsOk (syms ++ [y]) where
  num i z hz := by
    rcases Nat.lt_or_ge i syms.length with h | h
    · rw [List.getElem?_append_left h] at hz; exact S.num i z hz
    · rw [List.getElem?_append_right h] at hz
      have : i - syms.length = 0 := by
        rcases Nat.eq_zero_or_pos (i - syms.length) with e | e
        · exact e
        · rw [List.getElem?_eq_none (by rw [List.length_singleton]; omega)] at hz; cases hz
      rw [this] at hz
      cases hz
      rw [hk]; omega
  uniq := by
    rw [List.map_append, List.map_cons, List.map_nil]
    refine List.nodup_append.mpr ⟨S.uniq, List.nodup_cons.mpr ⟨List.not_mem_nil, List.nodup_nil⟩, ?_⟩
    intro a ha b hb
    obtain ⟨z, hz, rfl⟩ := List.mem_map.mp ha
    rw [List.mem_singleton.mp hb]
    exact hn z hz
  nil z hz := by
    rcases List.mem_append.mp hz with h | h
    · exact S.nil z h
    · rw [List.mem_singleton.mp h]; exact h1
  t z hz := by
    rcases List.mem_append.mp hz with h | h
    · exact S.t z h
    · rw [List.mem_singleton.mp h]; exact h2
theorem SymsOk.nil_ : SymsOk [] := ⟨fun _ _ h => by simp at h, List.nodup_nil, fun _ h => (nomatch h), fun _ h => (nomatch h)⟩
theorem Rel.nil_ : Rel [] [] [] := ⟨fun _ h => (nomatch h), fun k h => by simp [valueAt] at h, fun k h => by simp [valueAt] at h⟩
theorem Rel.stored {syms : List Sy} (S : SymsOk syms) {D : List (Int × Value)} {H : List (PySem.Str × Value)} (R : Rel syms D H) {y : Sy} (hy : y ∈ syms) (v : Value) : Rel syms (PySem.stored D y.k v) (PySem.stored H y.name v) := by
  refine ⟨fun z hz => ?_, fun k hk => ?_, fun n hn => ?_⟩
  · rw [valueAt_stored, valueAt_stored, R.1 z hz]
    by_cases e : z.k = y.k
    · rw [if_pos e, if_pos ((S.iff_k hz hy).mp e)]
    · rw [if_neg e, if_neg (fun q => e ((S.iff_k hz hy).mpr q))]
  · rw [valueAt_stored] at hk
    by_cases e : k = y.k
    · exact ⟨y, hy, e.symm⟩
    · rw [if_neg e] at hk; exact R.2.1 k hk
  · rw [valueAt_stored] at hn
    by_cases e : n = y.name
    · exact ⟨y, hy, e.symm⟩
    · rw [if_neg e] at hn; exact R.2.2 n hn
theorem Rel.without {syms : List Sy} (S : SymsOk syms) {D : List (Int × Value)} {H : List (PySem.Str × Value)} (R : Rel syms D H) {y : Sy} (hy : y ∈ syms) : Rel syms (PySem.without D y.k) (PySem.without H y.name) := by
  refine ⟨fun z hz => ?_, fun k hk => ?_, fun n hn => ?_⟩
  · rw [valueAt_without, valueAt_without, R.1 z hz]
    by_cases e : z.k = y.k
    · rw [if_pos e, if_pos ((S.iff_k hz hy).mp e)]
    · rw [if_neg e, if_neg (fun q => e ((S.iff_k hz hy).mpr q))]
  · rw [valueAt_without] at hk
    by_cases e : k = y.k
    · exact ⟨y, hy, e.symm⟩
    · rw [if_neg e] at hk; exact R.2.1 k hk
  · rw [valueAt_without] at hn
    by_cases e : n = y.name
    · exact ⟨y, hy, e.symm⟩
    · rw [if_neg e] at hn; exact R.2.2 n hn
theorem Rel.grow {syms : List Sy} {y : Sy} (S : SymsOk (syms ++ [y])) {D : List (Int × Value)} {H : List (PySem.Str × Value)} (R : Rel syms D H) : Rel (syms ++ [y]) D H := by
  have hy : y ∈ syms ++ [y] := List.mem_append_right _ (List.mem_singleton.mpr rfl)
  have off : y ∉ syms := fun h => by
    have u := S.uniq
    rw [List.map_append] at u
    exact (List.nodup_append.mp u).2.2 y.name (List.mem_map_of_mem h) y.name (by simp) rfl
  refine ⟨fun z hz => ?_, fun k hk => ?_, fun n hn => ?_⟩
  · rcases List.mem_append.mp hz with h | h
    · exact R.1 z h
    · rw [List.mem_singleton.mp h]
      have h1 : valueAt D y.k = none := by
        cases q : valueAt D y.k with
        | none => rfl
        | some v =>
          obtain ⟨z, hz, e⟩ := R.2.1 y.k (by rw [q]; rfl)
          exact absurd (S.of_k (List.mem_append_left _ hz) hy e ▸ hz) off
      have h2 : valueAt H y.name = none := by
        cases q : valueAt H y.name with
        | none => rfl
        | some v =>
          obtain ⟨z, hz, e⟩ := R.2.2 y.name (by rw [q]; rfl)
          exact absurd (S.of_name (List.mem_append_left _ hz) hy e ▸ hz) off
      rw [h1, h2]
  · obtain ⟨z, hz, e⟩ := R.2.1 k hk; exact ⟨z, List.mem_append_left _ hz, e⟩
  · obtain ⟨z, hz, e⟩ := R.2.2 n hn; exact ⟨z, List.mem_append_left _ hz, e⟩
theorem Rel.new_k {syms : List Sy} (S : SymsOk syms) {D : List (Int × Value)} {H : List (PySem.Str × Value)} (R : Rel syms D H) {k : Int} (hk : k = (syms.length : Int) + 2) : valueAt D k = none := by
  cases q : valueAt D k with
  | none => rfl
  | some v =>
    obtain ⟨z, hz, e⟩ := R.2.1 k (by rw [q]; rfl)
    obtain ⟨i, hi⟩ := List.getElem?_of_mem hz
    have h1 := S.num i z hi
    have h2 : i < syms.length := by
      rcases Nat.lt_or_ge i syms.length with h | h
      · exact h
      · rw [List.getElem?_eq_none h] at hi; cases hi
    omega
theorem Rel.new_n {syms : List Sy} {D : List (Int × Value)} {H : List (PySem.Str × Value)} (R : Rel syms D H) {n : PySem.Str} (hn : ∀ z ∈ syms, z.name ≠ n) : valueAt H n = none := by
  cases q : valueAt H n with
  | none => rfl
  | some v =>
    obtain ⟨z, hz, e⟩ := R.2.2 n (by rw [q]; rfl)
    exact absurd e (hn z hz)
def rowsV (syms : List Sy) : List Value := .ref 64 :: .ref 67 :: syms.map (fun y => Value.ref y.a)
def namesK (syms : List Sy) : List (PySem.Str × Value) := ("nil", .ref 64) :: ("t", .ref 67) :: syms.map (fun y => (y.name, Value.ref y.a))
theorem rowsV_grow (syms : List Sy) (y : Sy) : rowsV (syms ++ [y]) = rowsV syms ++ [Value.ref y.a] := by simp [rowsV]
theorem rowsV_length (syms : List Sy) : (rowsV syms).length = syms.length + 2 := by simp [rowsV]
theorem namesK_length (syms : List Sy) : (namesK syms).length = syms.length + 2 := by simp [namesK]
theorem namesK_grow (syms : List Sy) (y : Sy) : namesK (syms ++ [y]) = namesK syms ++ [(y.name, Value.ref y.a)] := by simp [namesK]
theorem rowsV_at {syms : List Sy} (S : SymsOk syms) {y : Sy} (hy : y ∈ syms) : (rowsV syms)[y.k.toNat]? = some (Value.ref y.a) := by
  obtain ⟨i, hi⟩ := List.getElem?_of_mem hy
  have h1 := S.num i y hi
  have h2 : y.k.toNat = i + 2 := by omega
  rw [h2]
  simp [rowsV, hi]
theorem SymsOk.k_le {syms : List Sy} (S : SymsOk syms) {y : Sy} (hy : y ∈ syms) : 0 ≤ y.k ∧ y.k < (syms.length : Int) + 2 := by
  obtain ⟨i, hi⟩ := List.getElem?_of_mem hy
  have h1 := S.num i y hi
  have h2 : i < syms.length := by
    rcases Nat.lt_or_ge i syms.length with h | h
    · exact h
    · rw [List.getElem?_eq_none h] at hi; cases hi
  omega
theorem valueAt_syms_none {syms : List Sy} {n : PySem.Str} (h : ∀ z ∈ syms, z.name ≠ n) : valueAt (syms.map (fun y => (y.name, Value.ref y.a))) n = none := by
  rw [valueAt_none_iff]
  intro q
  simp only [List.map_map, List.mem_map, Function.comp_apply] at q
  obtain ⟨z, hz, e⟩ := q
  exact h z hz e
theorem namesK_none {syms : List Sy} {n : PySem.Str} (h : ∀ z ∈ syms, z.name ≠ n) (h1 : n ≠ "nil") (h2 : n ≠ "t") : valueAt (namesK syms) n = none := by
  rw [namesK, valueAt_cons, if_neg (Ne.symm h1), valueAt_cons, if_neg (Ne.symm h2), valueAt_syms_none h]
theorem namesK_nil (syms : List Sy) : valueAt (namesK syms) "nil" = some (.ref 64) := by rw [namesK, valueAt_cons, if_pos rfl]
theorem namesK_t (syms : List Sy) : valueAt (namesK syms) "t" = some (.ref 67) := by rw [namesK, valueAt_cons, if_neg (by decide), valueAt_cons, if_pos rfl]
theorem namesK_at {syms : List Sy} (S : SymsOk syms) {y : Sy} (hy : y ∈ syms) : valueAt (namesK syms) y.name = some (.ref y.a) := by
  rw [namesK, valueAt_cons, if_neg (Ne.symm (S.nil y hy)), valueAt_cons, if_neg (Ne.symm (S.t y hy))]
  have u := S.uniq
  clear S
  induction syms with
  | nil => cases hy
  | cons x r ih =>
    rw [List.map_cons, valueAt_cons]
    rw [List.map_cons] at u
    have u' := List.nodup_cons.mp u
    rcases List.mem_cons.mp hy with rfl | hy
    · rw [if_pos rfl]
    · rw [if_neg (show ¬ x.name = y.name from fun e => u'.1 (by rw [e]; exact List.mem_map_of_mem hy))]
      exact ih hy u'.2
theorem namesK_stored {syms : List Sy} {y : Sy} (h : valueAt (namesK syms) y.name = none) : stored (namesK syms) y.name (Value.ref y.a) = namesK (syms ++ [y]) := by
  rw [stored_absent h, namesK_grow]
theorem find_sy (syms : List Sy) (n : PySem.Str) : (∃ y ∈ syms, y.name = n) ∨ ∀ z ∈ syms, z.name ≠ n := by
  by_cases h : ∃ y ∈ syms, y.name = n
  · exact .inl h
  · exact .inr fun z hz e => h ⟨z, hz, e⟩
end
section
structure WA where
  (W dW ob dob rw nm va dva df au ba dba bv lo dlo lv ce dce fn b1 d1 b2 d2 bl H hde hba how hfu Kn pe pl : Addr)
  (u1 u2 u3 u4 u5 u6 u7 o1 o2 c1 c2 v1 v2 v3 l1 l2 : Tok)
  (es1 es2 : List DictEntry)
  (n1 n2 bn : Nat)
  (auO : Obj)
structure WM where
  (cur : Int) (ct : Tok) (lm : Int) (lt mt : Tok) (rn : Nat)
  (nmO fnO dfO bvO lvO HO hdO hbO hwO hfO KO : Obj)
  (syms : List Sy)
  (Fk Dk Bk Ok : List (Int × Value))
  (Hf Hd Hb Hw Kk : List (PySem.Str × Value))
def curV (c : WA) (k : Int) : Value := if k = 0 then .none else if k = 1 then .ref c.b1 else .ref c.b2
def symL (P : Params) (syms : List Sy) : List (Addr × Obj) := syms.flatMap (Sy.led P)
def coreV (P : Params) (c : WA) (m : WM) (vs : List Value) : List (Addr × Obj) :=
  [(c.W, instObj 484 c.dW), (c.dW, worldO P c.u1 c.u2 c.u3 c.u4 c.u5 c.u6 c.u7 c.ob c.ce c.va c.ba (curV c m.cur) m.lm m.lt), (c.H, m.HO),
   (c.ob, instObj 302 c.dob), (c.dob, obO P c.o1 c.o2 c.rw c.nm), (c.rw, listOf vs.toArray m.rn), (c.nm, m.nmO),
   (c.va, instObj 365 c.dva), (c.dva, varsO P c.v1 c.v2 c.v3 c.df c.au c.pe), (c.df, m.dfO), (c.au, c.auO),
   (c.ba, instObj 421 c.dba), (c.dba, locO P c.l1 c.bv), (c.bv, m.bvO), (c.lo, instObj 421 c.dlo), (c.dlo, locO P c.l2 c.lv), (c.lv, m.lvO),
   (c.ce, instObj 225 c.dce), (c.dce, cellsO P c.c1 c.c2 c.fn c.pl), (c.fn, m.fnO),
   (c.b1, instObj 751 c.d1), (c.d1, dictOf c.es1 c.n1), (c.b2, instObj 751 c.d2), (c.d2, dictOf c.es2 c.n2), (c.bl, listOf [Value.ref c.b1, Value.ref c.b2].toArray c.bn),
   (c.hde, m.hdO), (c.hba, m.hbO), (c.how, m.hwO), (c.hfu, m.hfO), (c.Kn, m.KO)]
def coreE (P : Params) (c : WA) (m : WM) : List (Addr × Obj) := coreV P c m (rowsV m.syms)
def hereK (c : WA) (m : WM) : List (PySem.Str × Value) :=
  [("current", .int m.cur m.ct), ("default", .ref c.hde), ("bare", .ref c.hba), ("own", .ref c.how), ("functions", .ref c.hfu), ("markers", .int m.lm m.mt)]
structure WOk (w : World) (c : WA) : Prop where
  s1 : (c.nm == sysModules) = false
  s2 : (c.fn == sysModules) = false
  s3 : (c.df == sysModules) = false
  s4 : (c.au == sysModules) = false
  s5 : (c.bv == sysModules) = false
  s6 : (c.lv == sysModules) = false
  s7 : (c.H == sysModules) = false
  s8 : (c.hde == sysModules) = false
  s9 : (c.hba == sysModules) = false
  s10 : (c.how == sysModules) = false
  s11 : (c.hfu == sysModules) = false
  s12 : (c.Kn == sysModules) = false
  au : c.auO.IsDictOf (PySem.intKind PySem.Challenge.rw_ok0067_01.row.prog w) []
  e1 : getL "locals" c.es1 = some (some .none)
  e2 : getL "locals" c.es2 = some (some (.ref c.lo))
structure MOk (w : World) (c : WA) (m : WM) : Prop where
  nm : m.nmO.IsDictOf (PySem.strKind PySem.Challenge.rw_ok0067_01.row.prog w) (namesK m.syms)
  fn : m.fnO.IsDictOf (PySem.intKind PySem.Challenge.rw_ok0067_01.row.prog w) m.Fk
  df : m.dfO.IsDictOf (PySem.intKind PySem.Challenge.rw_ok0067_01.row.prog w) m.Dk
  bv : m.bvO.IsDictOf (PySem.intKind PySem.Challenge.rw_ok0067_01.row.prog w) m.Bk
  lv : m.lvO.IsDictOf (PySem.intKind PySem.Challenge.rw_ok0067_01.row.prog w) m.Ok
  H : m.HO.IsDictOf (PySem.strKind PySem.Challenge.rw_ok0067_01.row.prog w) (hereK c m)
  hd : m.hdO.IsDictOf (PySem.strKind PySem.Challenge.rw_ok0067_01.row.prog w) m.Hd
  hb : m.hbO.IsDictOf (PySem.strKind PySem.Challenge.rw_ok0067_01.row.prog w) m.Hb
  hw : m.hwO.IsDictOf (PySem.strKind PySem.Challenge.rw_ok0067_01.row.prog w) m.Hw
  hf : m.hfO.IsDictOf (PySem.strKind PySem.Challenge.rw_ok0067_01.row.prog w) m.Hf
  K : m.KO.IsDictOf (PySem.strKind PySem.Challenge.rw_ok0067_01.row.prog w) m.Kk
  sy : SymsOk m.syms
  rf : Rel m.syms m.Fk m.Hf
  rd : Rel m.syms m.Dk m.Hd
  rb : Rel m.syms m.Bk m.Hb
  ro : Rel m.syms m.Ok m.Hw
  gf : ∀ n v, valueAt m.Hf n = some v → ∃ f, v = .ref f
  gd : ∀ n v, valueAt m.Hd n = some v → GoodV v
  gb : ∀ n v, valueAt m.Hb n = some v → GoodV v
  go : ∀ n v, valueAt m.Hw n = some v → GoodV v
  kn : ∀ n v, valueAt m.Kk n = some v → ∃ y ∈ m.syms, y.name = n ∧ v = .ref y.a
  c0 : 0 ≤ m.cur
  c2 : m.cur ≤ 2
  l0 : 0 ≤ m.lm
structure Cap (n : Nat) (m : WM) : Prop where
  lm : m.lm ≤ n
  sy : m.syms.length ≤ n
  fk : m.Fk.length ≤ n
  dk : m.Dk.length ≤ n
  bk : m.Bk.length ≤ n
  ok : m.Ok.length ≤ n
  hf : m.Hf.length ≤ n
  hd : m.Hd.length ≤ n
  hb : m.Hb.length ≤ n
  hw : m.Hw.length ≤ n
  kk : m.Kk.length ≤ n
theorem Cap.mono {n n' : Nat} {m : WM} (C : Cap n m) (h : n ≤ n') : Cap n' m := ⟨by have := C.lm; omega, Nat.le_trans C.sy h, Nat.le_trans C.fk h, Nat.le_trans C.dk h, Nat.le_trans C.bk h, Nat.le_trans C.ok h, Nat.le_trans C.hf h, Nat.le_trans C.hd h, Nat.le_trans C.hb h, Nat.le_trans C.hw h, Nat.le_trans C.kk h⟩
theorem symL_append (P : Params) (l r : List Sy) : symL P (l ++ r) = symL P l ++ symL P r := by simp [symL]
theorem symL_mem1 {P : Params} {syms : List Sy} {y : Sy} (h : y ∈ syms) : (y.a, instObj 58 y.da) ∈ symL P syms := List.mem_flatMap.mpr ⟨y, h, .head _⟩
theorem symL_mem2 {P : Params} {syms : List Sy} {y : Sy} (h : y ∈ syms) : (y.da, symO P y.t1 y.t2 y.k y.tn y.name y.tm) ∈ symL P syms := List.mem_flatMap.mpr ⟨y, h, .tail _ (.head _)⟩
theorem valueAt_stored_self {K : Type} [DecidableEq K] (kvs : List (K × Value)) (k : K) (v : Value) : valueAt (stored kvs k v) k = some v := by rw [valueAt_stored, if_pos rfl]
theorem rows_last (vs : List Value) (x : Value) : (vs ++ [x])[(vs.length : Int).toNat]? = some x := by simp
theorem getD_good {K : Type} [DecidableEq K] {a : List (K × Value)} {b : List (K × Value)} (ha : ∀ n v, valueAt a n = some v → GoodV v) (hb : ∀ n v, valueAt b n = some v → GoodV v) (k : K) : GoodV ((valueAt a k).getD ((valueAt b k).getD .none)) := by
  cases h : valueAt a k with
  | some v => exact ha k v h
  | none =>
    cases h2 : valueAt b k with
    | some v => exact hb k v h2
    | none => exact .inl rfl
section
variable {prog : Program} {w : World} {A : Around} {E : Value → Shared → Prop} {s : Shared} {env : Env} {h₀ : Heap} {target : Expr} {body : List Stmt} {Q : Flow → Shared → Prop}
theorem items_of {I : Addr} {kp : Addr × Obj} (J : List Value → (Str → Option Value) → List (Addr × Obj) → Prop)
    (step : ∀ v r fm news h tk it, J (v :: r) fm news → it.cls = .type "tuple_iterator" → Fr h₀ env.locals h fm → News h₀ env.locals h ((I, it) :: news) →
      wpAny (model prog w) A (assign target env v) (fun _ s₂ => wpAny (model prog w) A (execs body env) (UnrPostW h₀ env.locals { s with heap := h, toks := tk } [(I, it)] (fun m' n' => SubL [kp] n' ∧ J r m' n') Q) E s₂) E { s with heap := h, toks := tk })
    (fin : ∀ fm news h tk, J [] fm news → Fr h₀ env.locals h fm → News h₀ env.locals h news → Q .next { s with heap := h, toks := tk }) :
    ∀ (vs : List Value) (fm : Str → Option Value) (news : List (Addr × Obj)), J vs fm news → ItemsRest prog w A E h₀ env target body Q s [(I, "tuple_iterator")] [kp] (vs.map .val) fm news
  | [], fm, news, hJ => ItemsRest.zero fun h tk F N => fin fm news h tk hJ F N
  | v :: r, fm, news, hJ => ItemsRest.val fun h tk F => AllObj.cons fun it hc => AllObj.nil fun N =>
    wpAny_mono (step v r fm news h tk it hJ hc F N) (fun _ s₂ h₂ => wpAny_mono h₂ (fun f s₃ h₃ => by
      cases f with
      | ret v => exact h₃
      | brk => exact h₃
      | next =>
        obtain ⟨h', tk', m', news', e, F', N', o', k', j'⟩ := h₃
        exact ⟨h', tk', m', news', e, F', N', o', k', items_of J step fin r m' news' j'⟩
      | cont =>
        obtain ⟨h', tk', m', news', e, F', N', o', k', j'⟩ := h₃
        exact ⟨h', tk', m', news', e, F', N', o', k', items_of J step fin r m' news' j'⟩) fun _ _ e => e) fun _ _ e => e
end
section
variable {prog : Program} {w : World} {K : Type} [DecidableEq K] {knd : KeyKind prog w K} {A : Around} {E : Value → Shared → Prop} {s : Shared} {h₀ : Heap} {L d : Addr} {news : List (Addr × Obj)} {o : Obj} {kvs : List (K × Value)} {k : K} {key v dflt : Value}
theorem get2x {Q : Value → Shared → Prop} (N : News h₀ L s.heap news) (hp : (d, o) ∈ news) (hd : o.IsDictOf knd kvs) (lo : (d == sysModules) = false) (hkey : knd.is k key = true) (hx : (valueAt kvs k).getD dflt = v) (h : Q v { s with toks := s.toks + 1 }) :
    wpAny (model prog w) A (call (.builtin "dict.get") [.ref d, key, dflt]) Q E s := by
  subst hx
  exact kdg_get2 N hp hd lo hkey _ rfl h
theorem ne_same {Q : Value → Shared → Prop} (hg : GoodV v) (h : Q (.bool false) s) : wpAny (model prog w) A (compareOp .NotEq v v) Q E s := by
  rcases hg with rfl | ⟨i, t, rfl⟩
  · exact EqNone.ne_none_none h
  · exact ne_int (by simpa using h)
end
end
section
section
variable {w : World} {A : Around} {E : Value → Shared → Prop} {s : Shared} {L : Addr} {h₀ : Heap} {m mg mb : Str → Option Value}
  {news : List (Addr × Obj)} {p : Program} {loose : List Str}
theorem own_w2 {c : WA} {k : Int} {W dW : Addr} {u1 u2 u3 u4 u5 u6 u7 : Tok} {ob ce va ba : Addr} {lm : Int} {lt : Tok} {Q : Value → Shared → Prop}
   (F : Fr h₀ L s.heap m) (N : News h₀ L s.heap news) (X : (hd.heap_1 w.params).In h₀) (T : TopRead p loose mg mb h₀) (hr : A.depth + 1 < recursionLimit)
   (m1 : (W, instObj 484 dW) ∈ news) (m2 : (dW, worldO w.params u1 u2 u3 u4 u5 u6 u7 ob ce va ba (curV c k) lm lt) ∈ news)
   (m3 : (c.b1, instObj 751 c.d1) ∈ news) (m4 : (c.d1, dictOf c.es1 c.n1) ∈ news) (m5 : (c.b2, instObj 751 c.d2) ∈ news) (m6 : (c.d2, dictOf c.es2 c.n2) ∈ news)
   (O : WOk w c) (hk : k = 2)
   (h : ∀ h' tk', Fr h₀ L h' m → News h₀ L h' news → Q (.ref c.lo) { s with heap := h', toks := tk' }) :
   wpAny (model PySem.Challenge.rw_ok0067_01.row.prog w) A (call (.ref 467) [.ref W]) Q E s := by
  subst hk
  rw [show curV c 2 = .ref c.b2 by simp [curV]] at m2
  exact own_own F N X T hr m1 m2 m5 m6 O.e2 h
theorem own_w0 {c : WA} {k : Int} {W dW : Addr} {u1 u2 u3 u4 u5 u6 u7 : Tok} {ob ce va ba : Addr} {lm : Int} {lt : Tok} {Q : Value → Shared → Prop}
   (F : Fr h₀ L s.heap m) (N : News h₀ L s.heap news) (X : (hd.heap_1 w.params).In h₀) (T : TopRead p loose mg mb h₀) (hr : A.depth + 1 < recursionLimit)
   (m1 : (W, instObj 484 dW) ∈ news) (m2 : (dW, worldO w.params u1 u2 u3 u4 u5 u6 u7 ob ce va ba (curV c k) lm lt) ∈ news)
   (m3 : (c.b1, instObj 751 c.d1) ∈ news) (m4 : (c.d1, dictOf c.es1 c.n1) ∈ news) (m5 : (c.b2, instObj 751 c.d2) ∈ news) (m6 : (c.d2, dictOf c.es2 c.n2) ∈ news)
   (O : WOk w c) (hk : k ≠ 2) (h0 : 0 ≤ k) (h2 : k ≤ 2)
   (h : ∀ h' tk', Fr h₀ L h' m → News h₀ L h' news → Q (.ref ba) { s with heap := h', toks := tk' }) :
   wpAny (model PySem.Challenge.rw_ok0067_01.row.prog w) A (call (.ref 467) [.ref W]) Q E s := by
  rcases (show k = 0 ∨ k = 1 by omega) with rfl | rfl
  · rw [show curV c 0 = .none by simp [curV]] at m2
    exact own_none F N X T hr m1 m2 h
  · rw [show curV c 1 = .ref c.b1 by simp [curV]] at m2
    exact own_bare F N X T hr m1 m2 m3 m4 O.e1 h
end
theorem Rel.getD {syms : List Sy} {D : List (Int × Value)} {H : List (PySem.Str × Value)} (R : Rel syms D H) {y : Sy} (hy : y ∈ syms) (d : Value) : (valueAt D y.k).getD d = (valueAt H y.name).getD d := by rw [R.1 y hy]
def Keep (h h' : Heap) (small : List (Addr × Obj)) : Prop := ∀ a o, (∀ p ∈ small, p.1 ≠ a) → h.get? a = some o → h'.get? a = some o
def NewK (h : Heap) (small l : List (Addr × Obj)) : Prop := ∀ p ∈ l, (∃ q ∈ small, q.1 = p.1) ∨ h.get? p.1 = none
section
variable {prog : Program} {w : World} {A : Around} {E : Value → Shared → Prop} {s s' : Shared} {L L' d e : Addr} {h₀ g hs : Heap} {m m' : Str → Option Value}
  {news small small' l : List (Addr × Obj)} {R : Result → Shared → Prop} {v : Value}
theorem back_all (F' : Fr g L' s'.heap m') (N' : News g L' s'.heap small')
    (gk : ∀ a ob, (∀ p ∈ small, p.1 ≠ a) → s.heap.get? a = some ob → g.get? a = some ob) (hl : ∀ p ∈ l, p ∈ small')
    (k : Fr h₀ L s'.heap m → News h₀ L s'.heap l → Keep s.heap s'.heap small → NewK s.heap small l → R (.ok (.ret v)) s') : Back h₀ L m s.heap small g R v s' :=
  ⟨L', m', l, F', fun p hp => N' p (hl p hp), fun F Ns kp => k F Ns kp fun p hp => by
    by_cases c : ∃ q ∈ small, q.1 = p.1
    · exact .inl c
    · refine .inr ?_
      cases q : s.heap.get? p.1 with
      | none => rfl
      | some ob =>
        have := (N' p (hl p hp)).2.2
        rw [gk _ _ (fun z hz e => c ⟨z, hz, e⟩) q] at this; cases this⟩
end
theorem abs3 {h₀ h : Heap} {L tu : Addr} {a b c : Tok} {l : List (Addr × Obj)} (N : News h₀ L h ((tu, ({ cls := .type "tuple", data := .seq #[.str "a" a, .str "b" b, .str "c" c] } : Obj)) :: l)) :
    ∃ (to0 : Obj) (vs : List Value) (n0 : Nat), to0.cls = .type "tuple" ∧ to0.data = .seq vs.toArray n0 ∧ (∀ v ∈ vs, ∃ nm t, v = Value.str nm t ∧ nm ≠ "nil" ∧ nm ≠ "t") ∧ vs.length = 3 ∧ News h₀ L h ((tu, to0) :: l) := by
  refine ⟨_, [_, _, _], _, rfl, rfl, ?_, rfl, N⟩
  intro v hv
  simp only [List.mem_cons, List.not_mem_nil, or_false] at hv
  rcases hv with rfl | rfl | rfl <;> exact ⟨_, _, rfl, by decide, by decide⟩
inductive Chg2 (d : Addr) (o o' : Obj) : List (Addr × Obj) → List (Addr × Obj) → Prop
  | head {r} : Chg2 d o o' ((d, o) :: r) ((d, o') :: r)
  | tail {p r r'} : Chg2 d o o' r r' → Chg2 d o o' (p :: r) (p :: r')
inductive ChgF (d : Addr) (o : Obj) : List (Addr × Obj) → (Obj → List (Addr × Obj)) → Prop
  | head {r} : ChgF d o ((d, o) :: r) (fun o' => (d, o') :: r)
  | tail {p r g} : ChgF d o r g → ChgF d o (p :: r) (fun o' => p :: g o')
theorem Chg2.key {d : Addr} {o o' : Obj} {l l' : List (Addr × Obj)} (C : Chg2 d o o' l l') : d ∈ l.map Prod.fst := by
  induction C with
  | head => exact List.mem_cons_self ..
  | tail _ ih => exact List.mem_cons_of_mem _ ih
theorem ChgF.key {d : Addr} {o : Obj} {l : List (Addr × Obj)} {g : Obj → List (Addr × Obj)} (C : ChgF d o l g) : d ∈ l.map Prod.fst := by
  induction C with
  | head => exact List.mem_cons_self ..
  | tail _ ih => exact List.mem_cons_of_mem _ ih
theorem upd_of {d : Addr} {o o' : Obj} {l l' : List (Addr × Obj)} (ND : (l.map Prod.fst).Nodup) (C : Chg2 d o o' l l') : Upd d o o' l l' := by
  induction C with
  | head => exact .head fun p hp e => (List.nodup_cons.mp ND).1 (List.mem_map.mpr ⟨p, hp, e⟩)
  | tail c ih => exact .tail (fun e => (List.nodup_cons.mp ND).1 (by rw [e]; exact c.key)) (ih (List.nodup_cons.mp ND).2)
theorem updF_of {d : Addr} {o : Obj} {l : List (Addr × Obj)} {g : Obj → List (Addr × Obj)} (ND : (l.map Prod.fst).Nodup) (C : ChgF d o l g) : UpdF d o l g := by
  induction C with
  | head => exact .head fun p hp e => (List.nodup_cons.mp ND).1 (List.mem_map.mpr ⟨p, hp, e⟩)
  | tail c ih => exact .tail (fun e => (List.nodup_cons.mp ND).1 (by rw [e]; exact c.key)) (ih (List.nodup_cons.mp ND).2)
def mapSN (a b : Option Value) (x₁ x₂ : PySem.Str) (fm : PySem.Str → Option Value) : PySem.Str → Option Value := fun y => if y = x₁ then a else if y = x₂ then b else fm y
theorem mapSN_again (a b a' b' : Option Value) (x₁ x₂ : PySem.Str) (fm : PySem.Str → Option Value) :
    (fun y => if y = x₁ then a' else if y = x₂ then b' else if y = x₁ then a else if y = x₂ then b else fm y) = fun y => if y = x₁ then a' else if y = x₂ then b' else fm y := by
  funext y
  by_cases h1 : y = x₁
  · simp [h1]
  · by_cases h2 : y = x₂
    · simp [h1, h2]
    · simp [h1, h2]
theorem mapSN_self (x₁ x₂ : PySem.Str) (fm : PySem.Str → Option Value) : fm = fun y => if y = x₁ then fm x₁ else if y = x₂ then fm x₂ else fm y := by
  funext y
  by_cases h1 : y = x₁
  · rw [if_pos h1, h1]
  · rw [if_neg h1]
    by_cases h2 : y = x₂
    · rw [if_pos h2, h2]
    · rw [if_neg h2]
section
variable {prog : Program} {w : World} {A : Around} {E : Value → Shared → Prop} {s : Shared} {env : Env} {h₀ : Heap} {target : Expr} {body : List Stmt} {Q : Flow → Shared → Prop}
theorem items_of2 {I : Addr} {kp : Addr × Obj} (x₁ x₂ : PySem.Str) {fm₀ : PySem.Str → Option Value} {vs : List Value} {news₀ : List (Addr × Obj)} (J : List Value → List (Addr × Obj) → Prop)
    (step : ∀ v r a b news h tk it, J (v :: r) news → it.cls = .type "tuple_iterator" → Fr h₀ env.locals h (fun y => if y = x₁ then a else if y = x₂ then b else fm₀ y) → News h₀ env.locals h ((I, it) :: news) →
      wpAny (model prog w) A (assign target env v) (fun _ s₂ => wpAny (model prog w) A (execs body env) (UnrPostW h₀ env.locals { s with heap := h, toks := tk } [(I, it)] (fun m' n' => SubL [kp] n' ∧ (∃ a b, m' = fun y => if y = x₁ then a else if y = x₂ then b else fm₀ y) ∧ J r n') Q) E s₂) E { s with heap := h, toks := tk })
    (fin : ∀ a b news h tk, J [] news → Fr h₀ env.locals h (fun y => if y = x₁ then a else if y = x₂ then b else fm₀ y) → News h₀ env.locals h news → Q .next { s with heap := h, toks := tk })
    (init : J vs news₀) : ItemsRest prog w A E h₀ env target body Q s [(I, "tuple_iterator")] [kp] (vs.map .val) fm₀ news₀ := by
  refine items_of (fun vs fm news => (∃ a b, fm = fun y => if y = x₁ then a else if y = x₂ then b else fm₀ y) ∧ J vs news) ?_ ?_ _ _ _ ⟨⟨_, _, mapSN_self x₁ x₂ fm₀⟩, init⟩
  · rintro v r fm news h tk it ⟨⟨a, b, rfl⟩, hJ⟩ hc F N
    exact step v r a b news h tk it hJ hc F N
  · rintro fm news h tk ⟨⟨a, b, rfl⟩, hJ⟩ F N
    exact fin a b news h tk hJ F N
end
theorem sym_mem {p : Addr × Obj} {P : Params} {l : List Sy} (h : p ∈ symL P l) : List.Mem p (symL P l) := h
section
variable {prog : Program} {w : World} {A : Around} {E : Value → Shared → Prop} {s : Shared}
theorem ne_str_same {x : PySem.Str} {t u : Tok} {Q : Value → Shared → Prop} (h : Q (.bool false) s) : wpAny (model prog w) A (compareOp .NotEq (.str x t) (.str x u)) Q E s :=
  PyProof.Rows.ne_str (by simpa using h)
end
theorem MOk.setK {w : World} {c : WA} {m : WM} (I : MOk w c m) {o : Obj} {k : List (PySem.Str × Value)} (hK : o.IsDictOf (PySem.strKind PySem.Challenge.rw_ok0067_01.row.prog w) k)
    (hk : ∀ n v, valueAt k n = some v → ∃ y ∈ m.syms, y.name = n ∧ v = .ref y.a) : MOk w c { m with KO := o, Kk := k } :=
  ⟨I.nm, I.fn, I.df, I.bv, I.lv, I.H, I.hd, I.hb, I.hw, I.hf, hK, I.sy, I.rf, I.rd, I.rb, I.ro, I.gf, I.gd, I.gb, I.go, hk, I.c0, I.c2, I.l0⟩
theorem kn_stored {syms : List Sy} {kvs : List (PySem.Str × Value)} (hk : ∀ n v, valueAt kvs n = some v → ∃ y ∈ syms, y.name = n ∧ v = .ref y.a) {y : Sy} (hy : y ∈ syms) :
    ∀ n v, valueAt (stored kvs y.name (.ref y.a)) n = some v → ∃ y ∈ syms, y.name = n ∧ v = .ref y.a := by
  intro n v h
  rw [valueAt_stored] at h
  by_cases e : n = y.name
  · rw [if_pos e] at h
    exact ⟨y, hy, e.symm, (Option.some.inj h).symm⟩
  · rw [if_neg e] at h
    exact hk n v h
theorem Cap.setK {n n' : Nat} {m : WM} (C : Cap n m) {o : Obj} {k : List (PySem.Str × Value)} (h : n ≤ n') (hk : k.length ≤ n') : Cap n' { m with KO := o, Kk := k } :=
  let D := C.mono h
  ⟨D.lm, D.sy, D.fk, D.dk, D.bk, D.ok, D.hf, D.hd, D.hb, D.hw, hk⟩
/-- a new symbol on the table -/
theorem MOk.grow {w : World} {c : WA} {m : WM} (I : MOk w c m) {o : Obj} {y : Sy} {r : Nat} (hn : o.IsDictOf (PySem.strKind PySem.Challenge.rw_ok0067_01.row.prog w) (stored (namesK m.syms) y.name (.ref y.a)))
    (hk : y.k = ((rowsV m.syms).length : Int)) (hnew : ∀ z ∈ m.syms, z.name ≠ y.name) (h1 : y.name ≠ "nil") (h2 : y.name ≠ "t") : MOk w c { m with nmO := o, rn := r, syms := m.syms ++ [y] } := by
  have S : SymsOk (m.syms ++ [y]) := I.sy.grow (by rw [hk, rowsV_length]; omega) hnew h1 h2
  rw [namesK_stored (namesK_none hnew h1 h2)] at hn
  exact ⟨hn, I.fn, I.df, I.bv, I.lv, I.H, I.hd, I.hb, I.hw, I.hf, I.K, S, I.rf.grow S, I.rd.grow S, I.rb.grow S, I.ro.grow S, I.gf, I.gd, I.gb, I.go,
    fun n v h => let ⟨z, hz, e⟩ := I.kn n v h; ⟨z, List.mem_append_left _ hz, e⟩, I.c0, I.c2, I.l0⟩
theorem Cap.grow {n n' : Nat} {m : WM} (C : Cap n m) {o : Obj} {y : Sy} {r : Nat} (h : n < n') : Cap n' { m with nmO := o, rn := r, syms := m.syms ++ [y] } :=
  let D := C.mono (Nat.le_of_lt h)
  ⟨D.lm, by simp only [List.length_append, List.length_singleton]; have := C.sy; omega, D.fk, D.dk, D.bk, D.ok, D.hf, D.hd, D.hb, D.hw, D.kk⟩
theorem mem_grow {P : Params} {A : List (Addr × Obj)} {syms : List Sy} {y : Sy} : ∀ p ∈ A ++ symL P (syms ++ [y]), p ∈ (y.a, instObj 58 y.da) :: (y.da, symO P y.t1 y.t2 y.k y.tn y.name y.tm) :: (A ++ symL P syms) := by
  intro p hp
  rw [symL_append] at hp
  rcases List.mem_append.mp hp with h | h
  · exact .tail _ (.tail _ (List.mem_append_left _ h))
  · rcases List.mem_append.mp h with h | h
    · exact .tail _ (.tail _ (List.mem_append_right _ h))
    · simp only [symL, List.flatMap_cons, List.flatMap_nil, List.append_nil] at h
      rcases List.mem_cons.mp h with rfl | h
      · exact .head _
      · rw [List.mem_singleton.mp h]; exact .tail _ (.head _)
theorem nd_grow {P : Params} {A A' : List (Addr × Obj)} {syms : List Sy} {y : Sy} (e : A'.map Prod.fst = A.map Prod.fst) (ND : (((y.a, instObj 58 y.da) :: (y.da, symO P y.t1 y.t2 y.k y.tn y.name y.tm) :: (A ++ symL P syms)).map Prod.fst).Nodup) :
    ((A' ++ symL P (syms ++ [y])).map Prod.fst).Nodup := by
  have h : ((A ++ symL P (syms ++ [y])).map Prod.fst).Perm (((y.a, instObj 58 y.da) :: (y.da, symO P y.t1 y.t2 y.k y.tn y.name y.tm) :: (A ++ symL P syms)).map Prod.fst) := by
    refine List.Perm.map _ ?_
    rw [symL_append]
    have e2 : symL P [y] = [(y.a, instObj 58 y.da), (y.da, symO P y.t1 y.t2 y.k y.tn y.name y.tm)] := by simp [symL]
    rw [e2, ← List.append_assoc]
    exact List.perm_append_comm
  rw [List.map_append, e, ← List.map_append]
  exact h.nodup_iff.mpr ND
theorem pack1 {P : Params} {g h' : Heap} {L : Addr} {c : WA} {m1 : WM} {oK : Obj} {k : List (PySem.Str × Value)} {D : Obj → Prop} {pre : List (Addr × Obj)} (hK : D oK) (N : News g L h' (pre ++ (coreE P c { m1 with KO := oK, Kk := k } ++ symL P m1.syms))) :
    ∃ oK : Obj, D oK ∧ News g L h' (pre ++ (coreE P c { m1 with KO := oK, Kk := k } ++ symL P m1.syms)) := ⟨oK, hK, N⟩
theorem pack2 {P : Params} {g h' : Heap} {L : Addr} {c : WA} {m1 : WM} {oN oK : Obj} {k : List (PySem.Str × Value)} {r : Nat} {D D2 : Obj → Prop} {pre : List (Addr × Obj)} {y : Sy} (hN : D2 oN) (hK : D oK)
    (N : News g L h' ((y.a, instObj 58 y.da) :: (y.da, symO P y.t1 y.t2 y.k y.tn y.name y.tm) :: (pre ++ (coreV P c { m1 with nmO := oN, rn := r, syms := m1.syms ++ [y], KO := oK, Kk := k } (rowsV m1.syms ++ [Value.ref y.a]) ++ symL P m1.syms))))
    (ND : (((y.a, instObj 58 y.da) :: (y.da, symO P y.t1 y.t2 y.k y.tn y.name y.tm) :: (pre ++ (coreV P c { m1 with nmO := oN, rn := r, syms := m1.syms ++ [y], KO := oK, Kk := k } (rowsV m1.syms ++ [Value.ref y.a]) ++ symL P m1.syms))).map Prod.fst).Nodup) :
    ∃ oN oK : Obj, D2 oN ∧ D oK ∧ News g L h' (pre ++ (coreE P c { m1 with nmO := oN, rn := r, syms := m1.syms ++ [y], KO := oK, Kk := k } ++ symL P (m1.syms ++ [y]))) ∧
      ((pre ++ (coreE P c { m1 with nmO := oN, rn := r, syms := m1.syms ++ [y], KO := oK, Kk := k } ++ symL P (m1.syms ++ [y]))).map Prod.fst).Nodup := by
  have e : coreE P c { m1 with nmO := oN, rn := r, syms := m1.syms ++ [y], KO := oK, Kk := k } = coreV P c { m1 with nmO := oN, rn := r, syms := m1.syms ++ [y], KO := oK, Kk := k } (rowsV m1.syms ++ [Value.ref y.a]) := by
    rw [coreE, rowsV_grow]
  refine ⟨oN, oK, hN, hK, ?_, ?_⟩
  · rw [e, ← List.append_assoc]
    rw [← List.append_assoc] at N
    exact news_sub N mem_grow
  · rw [e, ← List.append_assoc]
    rw [← List.append_assoc] at ND
    exact nd_grow rfl ND
theorem pack3 {w : World} {g h' : Heap} {L : Addr} {c : WA} {m1 : WM} {oN oK : Obj} {r n n' : Nat} {pre : List (Addr × Obj)} {y : Sy}
    (hN : oN.IsDictOf (PySem.strKind PySem.Challenge.rw_ok0067_01.row.prog w) (stored (namesK m1.syms) y.name (.ref y.a))) (hK : oK.IsDictOf (PySem.strKind PySem.Challenge.rw_ok0067_01.row.prog w) (stored m1.Kk y.name (.ref y.a)))
    (N : News g L h' ((y.a, instObj 58 y.da) :: (y.da, symO w.params y.t1 y.t2 y.k y.tn y.name y.tm) :: (pre ++ (coreV w.params c { m1 with nmO := oN, rn := r, syms := m1.syms ++ [y], KO := oK, Kk := stored m1.Kk y.name (.ref y.a) } (rowsV m1.syms ++ [Value.ref y.a]) ++ symL w.params m1.syms))))
    (ND : (((y.a, instObj 58 y.da) :: (y.da, symO w.params y.t1 y.t2 y.k y.tn y.name y.tm) :: (pre ++ (coreV w.params c { m1 with nmO := oN, rn := r, syms := m1.syms ++ [y], KO := oK, Kk := stored m1.Kk y.name (.ref y.a) } (rowsV m1.syms ++ [Value.ref y.a]) ++ symL w.params m1.syms))).map Prod.fst).Nodup)
    (I : MOk w c m1) (C : Cap n m1) (hn : n < n') (hk : y.k = ((rowsV m1.syms).length : Int)) (hnew : ∀ z ∈ m1.syms, z.name ≠ y.name) (h1 : y.name ≠ "nil") (h2 : y.name ≠ "t") :
    ∃ m2, News g L h' (pre ++ (coreE w.params c m2 ++ symL w.params m2.syms)) ∧ ((pre ++ (coreE w.params c m2 ++ symL w.params m2.syms)).map Prod.fst).Nodup ∧ MOk w c m2 ∧ Cap n' m2 := by
  have e : coreE w.params c { m1 with nmO := oN, rn := r, syms := m1.syms ++ [y], KO := oK, Kk := stored m1.Kk y.name (.ref y.a) } = coreV w.params c { m1 with nmO := oN, rn := r, syms := m1.syms ++ [y], KO := oK, Kk := stored m1.Kk y.name (.ref y.a) } (rowsV m1.syms ++ [Value.ref y.a]) := by
    rw [coreE, rowsV_grow]
  have hy : y ∈ m1.syms ++ [y] := List.mem_append_right _ (List.mem_singleton.mpr rfl)
  have G := I.grow (r := r) hN hk hnew h1 h2
  refine ⟨{ m1 with nmO := oN, rn := r, syms := m1.syms ++ [y], KO := oK, Kk := stored m1.Kk y.name (.ref y.a) }, ?_, ?_, G.setK hK (kn_stored G.kn hy), (C.grow (o := oN) (y := y) (r := r) hn).setK (Nat.le_refl _) ?_⟩
  · rw [e, ← List.append_assoc]
    rw [← List.append_assoc] at N
    exact news_sub N mem_grow
  · rw [e, ← List.append_assoc]
    rw [← List.append_assoc] at ND
    exact nd_grow rfl ND
  · have := stored_length_le m1.Kk y.name (.ref y.a)
    have := C.kk
    show (stored m1.Kk y.name (.ref y.a)).length ≤ n'
    omega
theorem words13 : True := by
  k_with "subl" => (first | exact List.nil_sublist _ | (refine List.Sublist.cons_cons _ ?_; k_extra "subl") | (refine List.Sublist.cons _ ?_; k_extra "subl"))
  k_with "sublist" => ((refine' List.Nodup.sublist ?_ ?q21n; (case q21n => assumption); k_extra "subl"))
  k_with "getItem ref int" => ((k_here; k_dflt (refine my_item (knd := PySem.intKind _ _) (by k_asm) (by k_mem) (by k_asm) (intKind_is _ _ _ _) (by k_asm) ?_)))
  k_with "getItem ref str" => ((k_here; k_dflt (refine my_item (knd := PySem.strKind _ _) (by k_asm) (by k_mem) (by k_asm) (strKind_is _ _ _ _) (by first | k_asm | rfl) ?_)))
  k_with "call ref" => ((k_here; (with_reducible show wpAny _ _ (call (Value.ref 390) _) _ _ _); k_dflt (refine' is_local_c ?q24F ?q24N ?q24X ?q24T ?q24r ?q24m1 ?q24m2 ?q24m3 ?q24lo ?q24hd ?_; (case q24F => k_asm); (case q24N => k_asm); (case q24X => k_asm); (case q24T => k_asm); (case q24r => k_room); (case q24m1 => k_mem); (case q24m2 => k_mem); (case q24m3 => k_mem); (case q24lo => k_asm); (case q24hd => k_asm); k_whole); (intro z9h' z9tk' z9F' z9N'); (try k_sweep)))
  k_with "call ref" => ((k_here; (with_reducible show wpAny _ _ (call (Value.ref 327) _) _ _ _); k_dflt (refine' default_value_c ?q24F ?q24N ?q24X ?q24T ?q24r ?q24m1 ?q24m2 ?q24m3 ?q24lo ?q24hd ?_; (case q24F => k_asm); (case q24N => k_asm); (case q24X => k_asm); (case q24T => k_asm); (case q24r => k_room); (case q24m1 => k_mem); (case q24m2 => k_mem); (case q24m3 => k_mem); (case q24lo => k_asm); (case q24hd => k_asm); k_whole); (intro z9h' z9tk' z9F' z9N'); (try k_sweep)))
  k_with "call ref" => ((k_here; (with_reducible show wpAny _ _ (call (Value.ref 355) _) _ _ _); k_dflt (refine' is_automatic_c ?q24F ?q24N ?q24X ?q24T ?q24r ?q24m1 ?q24m2 ?q24m3 ?q24lo ?q24hd ?_; (case q24F => k_asm); (case q24N => k_asm); (case q24X => k_asm); (case q24T => k_asm); (case q24r => k_room); (case q24m1 => k_mem); (case q24m2 => k_mem); (case q24m3 => k_mem); (case q24lo => k_asm); (case q24hd => k_asm); k_whole); (intro z9h' z9tk' z9F' z9N'); (try k_sweep)))
  k_with "call ref" => ((k_here; (with_reducible show wpAny _ _ (call (Value.ref 166) _) _ _ _); k_dflt (refine' function_of_c ?q24F ?q24N ?q24X ?q24T ?q24r ?q24m1 ?q24m2 ?q24m3 ?q24m4 ?q24m5 ?q24lo ?q24hd ?q24hx ?_; (case q24F => k_asm); (case q24N => k_asm); (case q24X => k_asm); (case q24T => k_asm); (case q24r => k_room); (case q24m1 => k_mem); (case q24m2 => k_mem); (case q24m3 => k_mem); (case q24m4 => k_mem); (case q24m5 => k_mem); (case q24lo => k_asm); (case q24hd => k_asm); (case q24hx => (first | with_reducible assumption | rfl)); k_whole); (intro z9h' z9tk' z9F' z9N'); (try k_sweep)))
  k_with "call ref" => ((k_here; (with_reducible show wpAny _ _ (call (Value.ref 334) _) _ _ _); k_dflt (refine' set_default_c ?q24F ?q24N ?q24X ?q24T ?q24r ?q24m1 ?q24m2 ?q24m3 ?q24nd ?q24hd ?q24hz ?_; (case q24F => k_asm); (case q24N => k_asm); (case q24X => k_asm); (case q24T => k_asm); (case q24r => k_room); (case q24m1 => k_mem); (case q24m2 => k_mem); (case q24m3 => k_mem); (case q24nd => (k_extra "sublist")); (case q24hd => k_asm); (case q24hz => omega); k_whole); (intro z9h' z9tk' z9o' z9F' z9ho' z9hd' z9B'); (have z9cN := chg_news (by assumption) (by assumption) (by k_extra "sub") z9B' z9ho' (by k_extra "chg")); (obtain ⟨z9N', z9ND'⟩ := z9cN); (try k_sweep)))
  k_with "call ref" => ((k_here; (with_reducible show wpAny _ _ (call (Value.ref 404) _) _ _ _); k_dflt (refine' make_local_there ?q24F ?q24N ?q24X ?q24T ?q24r ?q24m1 ?q24m2 ?q24m3 ?q24lo ?q24hd ?q24hk ?_; (case q24F => k_asm); (case q24N => k_asm); (case q24X => k_asm); (case q24T => k_asm); (case q24r => k_room); (case q24m1 => k_mem); (case q24m2 => k_mem); (case q24m3 => k_mem); (case q24lo => k_asm); (case q24hd => k_asm); (case q24hk => (with_reducible assumption)); k_whole); (intro z9h' z9tk' z9F' z9N'); (try k_sweep)))
  k_with "call ref" => ((k_here; (with_reducible show wpAny _ _ (call (Value.ref 411) _) _ _ _); k_dflt (refine' kill_c ?q24F ?q24N ?q24X ?q24T ?q24r ?q24m1 ?q24m2 ?q24m3 ?q24nd ?q24lo ?q24hd ?q24hz ?_; (case q24F => k_asm); (case q24N => k_asm); (case q24X => k_asm); (case q24T => k_asm); (case q24r => k_room); (case q24m1 => k_mem); (case q24m2 => k_mem); (case q24m3 => k_mem); (case q24nd => (k_extra "sublist")); (case q24lo => k_asm); (case q24hd => k_asm); (case q24hz => omega); k_whole); (intro z9h' z9tk' z9o' z9F' z9ho' z9hd' z9B'); (have z9cN := chg_news (by assumption) (by assumption) (by k_extra "sub") z9B' z9ho' (by k_extra "chg")); (obtain ⟨z9N', z9ND'⟩ := z9cN); (try k_sweep)))
  k_with "my_inl" => ((refine' code_inl ?q25k1 ?q25k2 ?q25kN ?q25k3 ?q25k4 ?q25k5 ?q25k6 ?q25k7 ?q25k8 ?_ ?q25c2 ?q25c3 ?q25c4 ?q25c5; (case q25k1 => k_asm); (case q25k2 => k_asm); (case q25kN => k_asm); (case q25k3 => k_asm); (case q25k4 => k_is); (case q25k5 => k_is); (case q25k6 => k_room); (case q25k7 => first | exact BindsTo.of_eq rfl | exact binds_K (by k_in) rfl (by k_is) rfl rfl rfl); (case q25k8 => exact locs rfl); (case q25c2 => exact rfl); (case q25c3 => exact rfl); (case q25c4 => exact rfl); (case q25c5 => decide); (intro z9g' z9L' z9h' z9FG' z9F' z9N' z9X' z9T'); dsimp only; (show wpAny _ _ _ _ _ _); k_fold))
  k_with "call ref" => ((k_here; k_dflt (first
  | (refine' call_cls0 ?q24k1 ?q24k2 ?q24k3 ?q24k4 ?q24k5 ?_; (case q24k1 => k_asm); (case q24k2 => k_asm); (case q24k3 => k_asm); (case q24k4 => k_is); (case q24k5 => k_is); k_whole; intro z9x' z9d' z9h' z9F' z9N' z9l1 z9l2; (try k_lt z9l1); (try k_lt2 z9l2); (try k_sweep))
  | (refine' call_cls ?q24k1 ?q24k2 ?q24k3 ?q24k4 ?q24k5 ?q24k6 ?_; (case q24k1 => k_asm); (case q24k2 => k_asm); (case q24k3 => k_asm); (case q24k4 => k_is); (case q24k5 => k_is); (case q24k6 => k_is); k_whole; intro z9x' z9d' z9h' z9F' z9N' z9l1 z9l2; (try k_lt z9l1); (try k_lt2 z9l2); (try k_sweep); k_extra "my_inl"))))
  k_with "k_ne" => ((refine neN ?_; (try dsimp only); first | k_extra "nd" | omega))
  k_with "call builtin:list.append" => ((k_here; (with_reducible show wpAny _ _ (call (Value.builtin _) [Value.ref _, _]) _ _ _); k_dflt (refine' my_append ?q26k1 ?q26k2 ?q26k3 ?q26z ?_; (case q26k1 => k_asm); (case q26k2 => k_asm); (case q26k3 => k_upd); (case q26z => rw [sizeLine_eq]; omega); k_whole); intro z9h' z9F' z9N'; (try k_sweep)))
  k_with "call builtin:len" => ((k_here; (with_reducible show wpAny _ _ (call (Value.builtin "len") [Value.ref _]) _ _ _); k_dflt (refine my_len (by k_asm) (by k_mem) (by k_asm) ?_)))
  k_with "getItem ref int" => ((k_here; k_dflt (refine my_at (by k_asm) (by k_mem) (by omega) (by omega) (by k_asm) ?_)))
  k_with "subscriptTail" => ((k_here; (with_reducible show wpAny _ _ (subscriptTail _ _ (Value.ref _) (Value.int _ _)) _ _ _); k_dflt (refine my_tail (by k_asm) (by k_mem) (by omega) (by omega) (by k_asm) ?_)))
  k_with "nn" => (first | exact List.forall_mem_nil _ | (refine' List.forall_mem_cons.mpr ⟨?q29a, ?q29b⟩; (case q29a => k_all); (case q29b => k_extra "nn")))
  k_with "hn" => (first | exact List.forall_mem_nil _ | (refine' List.forall_mem_cons.mpr ⟨?q30a, ?q30b⟩; (case q30a => k_extra "mem"); (case q30b => k_extra "hn")))
  k_with "call ref" => ((k_here; (with_reducible show wpAny _ _ (call (Value.ref 271) _) _ _ _); k_dflt (refine' by_number_c ?q24F ?q24N ?q24X ?q24T ?q24r ?q24m1 ?q24m2 ?q24m3 ?q24h0 ?q24h1 ?q24hx ?_; (case q24F => k_asm); (case q24N => k_asm); (case q24X => k_asm); (case q24T => k_asm); (case q24r => k_room); (case q24m1 => k_mem); (case q24m2 => k_mem); (case q24m3 => k_mem); (case q24h0 => (first | with_reducible assumption | omega)); (case q24h1 => omega); (case q24hx => (first | with_reducible assumption | exact rows_last _ _)); k_whole); (intro z9h' z9tk' z9F' z9N'); (try k_sweep)))
  k_with "call ref" => ((k_here; (with_reducible show wpAny _ _ (call (Value.ref 264) _) _ _ _); k_dflt (refine' fresh_c ?q24F ?q24N ?q24X ?q24T ?q24r ?q24m1 ?q24m2 ?q24m3 ?q24nd ?q24hz ?_; (case q24F => k_asm); (case q24N => k_asm); (case q24X => k_asm); (case q24T => k_asm); (case q24r => k_room); (case q24m1 => k_mem); (case q24m2 => k_mem); (case q24m3 => k_mem); (case q24nd => (k_extra "sublist")); (case q24hz => omega); k_whole); (intro z9h' z9tk' z9y' z9F' z9ho' z9B' z9W' z9hyk' z9hyn'); (have z9cN := chg_sy (by k_asm) (by assumption) (by assumption) (by k_extra "sub") z9B' z9ho' (by k_extra "chg") z9W'); (obtain ⟨z9N', z9ND'⟩ := z9cN); (try k_sweep)))
  k_with "call ref" => ((k_here; (with_reducible show wpAny _ _ (call (Value.ref 250) _) _ _ _); k_dflt (refine' intern_old ?q24F ?q24N ?q24X ?q24T ?q24r ?q24m1 ?q24m2 ?q24m3 ?q24lo ?q24hd ?q24hk ?_; (case q24F => k_asm); (case q24N => k_asm); (case q24X => k_asm); (case q24T => k_asm); (case q24r => k_room); (case q24m1 => k_mem); (case q24m2 => k_mem); (case q24m3 => k_mem); (case q24lo => k_asm); (case q24hd => k_asm); (case q24hk => (with_reducible assumption)); k_whole); (intro z9h' z9tk' z9F' z9N'); (try k_sweep)))
  k_with "call ref" => ((k_here; (with_reducible show wpAny _ _ (call (Value.ref 250) _) _ _ _); k_dflt (refine' intern_new ?q24F ?q24N ?q24X ?q24T ?q24r ?q24m1 ?q24m2 ?q24m3 ?q24m4 ?q24nd ?q24lo ?q24hd ?q24hk ?q24hz ?q24hz2 ?_; (case q24F => k_asm); (case q24N => k_asm); (case q24X => k_asm); (case q24T => k_asm); (case q24r => k_room); (case q24m1 => k_mem); (case q24m2 => k_mem); (case q24m3 => k_mem); (case q24m4 => k_mem); (case q24nd => (k_extra "sublist")); (case q24lo => k_asm); (case q24hd => k_asm); (case q24hk => (with_reducible assumption)); (case q24hz => omega); (case q24hz2 => omega); k_whole); (intro z9h' z9tk' z9o' z9y' z9F' z9ho' z9ho2' z9hd' z9B' z9W' z9hyk' z9hyn'); (have z9cN := chg2_sy (by k_asm) (by assumption) (by assumption) (by k_extra "sub") z9B' z9ho' z9ho2' (by k_extra "chg") (by k_extra "chg") z9W'); (obtain ⟨z9N', z9ND'⟩ := z9cN); (try k_sweep)))
  k_with "call ref" => ((k_here; (with_reducible show wpAny _ _ (call (Value.ref 460) _) _ _ _); k_dflt (refine' symbol_old ?q24F ?q24N ?q24X ?q24T ?q24r ?q24m1 ?q24m2 ?q24m3 ?q24m4 ?q24m5 ?q24lo ?q24hd ?q24hk ?_; (case q24F => k_asm); (case q24N => k_asm); (case q24X => k_asm); (case q24T => k_asm); (case q24r => k_room); (case q24m1 => k_mem); (case q24m2 => k_mem); (case q24m3 => k_mem); (case q24m4 => k_mem); (case q24m5 => k_mem); (case q24lo => k_asm); (case q24hd => k_asm); (case q24hk => (first | with_reducible assumption | exact namesK_nil _ | exact namesK_t _)); k_whole); (intro z9h' z9tk' z9F' z9N'); (try k_sweep)))
  k_with "call ref" => ((k_here; (with_reducible show wpAny _ _ (call (Value.ref 460) _) _ _ _); k_dflt (refine' symbol_new ?q24F ?q24N ?q24X ?q24T ?q24r ?q24m1 ?q24m2 ?q24m3 ?q24m4 ?q24m5 ?q24m6 ?q24nd ?q24lo ?q24hd ?q24hk ?q24hz ?q24hz2 ?_; (case q24F => k_asm); (case q24N => k_asm); (case q24X => k_asm); (case q24T => k_asm); (case q24r => k_room); (case q24m1 => k_mem); (case q24m2 => k_mem); (case q24m3 => k_mem); (case q24m4 => k_mem); (case q24m5 => k_mem); (case q24m6 => k_mem); (case q24nd => (k_extra "sublist")); (case q24lo => k_asm); (case q24hd => k_asm); (case q24hk => (with_reducible assumption)); (case q24hz => omega); (case q24hz2 => omega); k_whole); (intro z9h' z9tk' z9o' z9y' z9F' z9ho' z9ho2' z9hd' z9B' z9W' z9hyk' z9hyn'); (have z9cN := chg2_sy (by k_asm) (by assumption) (by assumption) (by k_extra "sub") z9B' z9ho' z9ho2' (by k_extra "chg") (by k_extra "chg") z9W'); (obtain ⟨z9N', z9ND'⟩ := z9cN); (try k_sweep); (obtain ⟨z9ya, z9yda, z9yt1, z9yt2, z9ytn, z9ytm, z9yk, z9yname⟩ := z9y'); (dsimp only at *); (subst z9hyk'); (subst z9hyn')))
  k_with "call ref" => ((k_here; (with_reducible show wpAny _ _ (call (Value.ref 467) _) _ _ _); k_dflt (refine' own_own ?q24F ?q24N ?q24X ?q24T ?q24r ?q24m1 ?q24m2 ?q24m3 ?q24m4 ?q24hb ?_; (case q24F => k_asm); (case q24N => k_asm); (case q24X => k_asm); (case q24T => k_asm); (case q24r => k_room); (case q24m1 => k_mem); (case q24m2 => k_mem); (case q24m3 => k_mem); (case q24m4 => k_mem); (case q24hb => k_get); k_whole); (intro z9h' z9tk' z9F' z9N'); (try k_sweep)))
  k_with "call ref" => ((k_here; (with_reducible show wpAny _ _ (call (Value.ref 467) _) _ _ _); k_dflt (refine' own_bare ?q24F ?q24N ?q24X ?q24T ?q24r ?q24m1 ?q24m2 ?q24m3 ?q24m4 ?q24hb ?_; (case q24F => k_asm); (case q24N => k_asm); (case q24X => k_asm); (case q24T => k_asm); (case q24r => k_room); (case q24m1 => k_mem); (case q24m2 => k_mem); (case q24m3 => k_mem); (case q24m4 => k_mem); (case q24hb => k_get); k_whole); (intro z9h' z9tk' z9F' z9N'); (try k_sweep)))
  k_with "call ref" => ((k_here; (with_reducible show wpAny _ _ (call (Value.ref 467) _) _ _ _); k_dflt (refine' own_none ?q24F ?q24N ?q24X ?q24T ?q24r ?q24m1 ?q24m2 ?_; (case q24F => k_asm); (case q24N => k_asm); (case q24X => k_asm); (case q24T => k_asm); (case q24r => k_room); (case q24m1 => k_mem); (case q24m2 => k_mem); k_whole); (intro z9h' z9tk' z9F' z9N'); (try k_sweep)))
  k_with "call ref" => ((k_here; (with_reducible show wpAny _ _ (call (Value.ref 474) _) _ _ _); k_dflt (refine' fresh_marker_c ?q24F ?q24N ?q24X ?q24T ?q24r ?q24m1 ?q24m2 ?q24nd ?q24h0 ?q24h1 ?_; (case q24F => k_asm); (case q24N => k_asm); (case q24X => k_asm); (case q24T => k_asm); (case q24r => k_room); (case q24m1 => k_mem); (case q24m2 => k_mem); (case q24nd => (k_extra "sublist")); (case q24h0 => omega); (case q24h1 => omega); k_whole); (intro z9h' z9tk' z9t1' z9t2' z9F' z9ho' z9B'); (have z9cN := chg_news (by assumption) (by assumption) (by k_extra "sub") z9B' z9ho' (by k_extra "chg")); (obtain ⟨z9N', z9ND'⟩ := z9cN); (try k_sweep)))
  k_with "call ref" => ((k_here; (with_reducible show wpAny _ _ (call (Value.ref 432) _) _ _ _); k_dflt (refine' value_in_c ?q24F ?q24N ?q24X ?q24T ?q24r ?q24m1 ?q24m2 ?q24m3 ?q24m4 ?q24m5 ?q24m6 ?q24l1 ?q24l2 ?q24hd1 ?q24hd2 ?q24hx ?_; (case q24F => k_asm); (case q24N => k_asm); (case q24X => k_asm); (case q24T => k_asm); (case q24r => k_room); (case q24m1 => k_mem); (case q24m2 => k_mem); (case q24m3 => k_mem); (case q24m4 => k_mem); (case q24m5 => k_mem); (case q24m6 => k_mem); (case q24l1 => k_asm); (case q24l2 => k_asm); (case q24hd1 => k_asm); (case q24hd2 => k_asm); (case q24hx => (first | with_reducible assumption | rfl)); k_whole); (intro z9h' z9tk' z9F' z9N'); (try k_sweep)))
  k_with "call ref" => ((k_here; (with_reducible show wpAny _ _ (call (Value.ref 439) _) _ _ _); k_dflt (refine' set_in_local ?q24F ?q24N ?q24X ?q24T ?q24r ?q24m1 ?q24m2 ?q24m3 ?q24nd ?q24l2 ?q24hd2 ?q24hk ?q24hz ?_; (case q24F => k_asm); (case q24N => k_asm); (case q24X => k_asm); (case q24T => k_asm); (case q24r => k_room); (case q24m1 => k_mem); (case q24m2 => k_mem); (case q24m3 => k_mem); (case q24nd => (k_extra "sublist")); (case q24l2 => k_asm); (case q24hd2 => k_asm); (case q24hk => (with_reducible assumption)); (case q24hz => omega); k_whole); (intro z9h' z9tk' z9o' z9F' z9ho' z9hd' z9B'); (have z9cN := chg_news (by assumption) (by assumption) (by k_extra "sub") z9B' z9ho' (by k_extra "chg")); (obtain ⟨z9N', z9ND'⟩ := z9cN); (try k_sweep)))
  k_with "call ref" => ((k_here; (with_reducible show wpAny _ _ (call (Value.ref 439) _) _ _ _); k_dflt (refine' set_in_default ?q24F ?q24N ?q24X ?q24T ?q24r ?q24m1 ?q24m2 ?q24m3 ?q24m7 ?q24m4 ?q24m5 ?q24m6 ?q24nd ?q24l2 ?q24l3 ?q24hd1 ?q24hd3 ?q24hd2 ?q24hk ?q24hka ?q24hz ?_; (case q24F => k_asm); (case q24N => k_asm); (case q24X => k_asm); (case q24T => k_asm); (case q24r => k_room); (case q24m1 => k_mem); (case q24m2 => k_mem); (case q24m3 => k_mem); (case q24m7 => k_mem); (case q24m4 => k_mem); (case q24m5 => k_mem); (case q24m6 => k_mem); (case q24nd => (k_extra "sublist")); (case q24l2 => k_asm); (case q24l3 => k_asm); (case q24hd1 => k_asm); (case q24hd3 => k_asm); (case q24hd2 => k_asm); (case q24hk => (with_reducible assumption)); (case q24hka => (first | k_asm | rfl)); (case q24hz => omega); k_whole); (intro z9h' z9tk' z9o' z9F' z9ho' z9hd' z9B'); (have z9cN := chg_news (by assumption) (by assumption) (by k_extra "sub") z9B' z9ho' (by k_extra "chg")); (obtain ⟨z9N', z9ND'⟩ := z9cN); (try k_sweep)))
  k_with "call ref" => ((k_here; (with_reducible show wpAny _ _ (call (Value.ref 404) _) _ _ _); k_dflt (refine' make_local_new ?q24F ?q24N ?q24X ?q24T ?q24r ?q24m1 ?q24m2 ?q24m3 ?q24m4 ?q24m5 ?q24m6 ?q24nd ?q24l1 ?q24l2 ?q24hd1 ?q24hd2 ?q24hk ?q24hz ?_; (case q24F => k_asm); (case q24N => k_asm); (case q24X => k_asm); (case q24T => k_asm); (case q24r => k_room); (case q24m1 => k_mem); (case q24m2 => k_mem); (case q24m3 => k_mem); (case q24m4 => k_mem); (case q24m5 => k_mem); (case q24m6 => k_mem); (case q24nd => (k_extra "sublist")); (case q24l1 => k_asm); (case q24l2 => k_asm); (case q24hd1 => k_asm); (case q24hd2 => k_asm); (case q24hk => (with_reducible assumption)); (case q24hz => omega); k_whole); (intro z9h' z9tk' z9o' z9F' z9ho' z9hd' z9B'); (have z9cN := chg_news (by assumption) (by assumption) (by k_extra "sub") z9B' z9ho' (by k_extra "chg")); (obtain ⟨z9N', z9ND'⟩ := z9cN); (try k_sweep)))
  k_with "call ref" => ((k_here; (with_reducible show wpAny _ _ (call (Value.ref 180) _) _ _ _); k_dflt (refine' set_function_c ?q24F ?q24N ?q24X ?q24T ?q24r ?q24m1 ?q24m2 ?q24m3 ?q24m4 ?q24m5 ?q24m6 ?q24m7 ?q24nd ?q24n1 ?q24n2 ?q24n3 ?q24n4 ?q24hd ?q24hz ?_; (case q24F => k_asm); (case q24N => k_asm); (case q24X => k_asm); (case q24T => k_asm); (case q24r => k_room); (case q24m1 => k_mem); (case q24m2 => k_mem); (case q24m3 => k_mem); (case q24m4 => k_mem); (case q24m5 => k_mem); (case q24m6 => k_mem); (case q24m7 => k_mem); (case q24nd => (k_extra "sublist")); (case q24n1 => (k_extra "nd")); (case q24n2 => (k_extra "nd")); (case q24n3 => (first | k_extra "nd" | omega)); (case q24n4 => (first | k_extra "nd" | omega)); (case q24hd => k_asm); (case q24hz => omega); k_whole); (intro z9h' z9tk' z9o' z9F' z9ho' z9hd' z9B'); (have z9N' := upd_news (by k_asm) z9B' z9ho' (by k_updF)); (try dsimp only at z9N'); (try k_sweep)))
  k_with "subscriptTail" => ((k_here; (with_reducible show wpAny _ _ (subscriptTail _ _ (Value.ref _) (Value.int _ _)) _ _ _); k_dflt (refine my_tail_ints (by k_asm) (by k_mem) (by k_asm) (by omega) (by omega) (by k_asm) ?_); intro z9i9' z9t9'))
  k_with "my pyIter" => ((k_here; (with_reducible show wpAny _ _ (pyIter (Value.ref _)) (fun it s₂ => LoopAtV _ _ _ _ _ _ _ _ _ it s₂) _ _); (rename Fr _ _ _ _ => z9lF'); with_unfolding_all (refine' iter_listUnr ?q32hh z9lF' ?q32N ?q32m ?q32c ?q32d ?_; (case q32hh => first | rfl | assumption); (case q32N => k_asm); (case q32m => k_mem); (case q32c => rfl); (case q32d => rfl)); clear z9lF'; intro z9i' z9l1; (try k_lt z9l1)))
  k_with "subscriptTail" => ((k_here; (with_reducible show wpAny _ _ (subscriptTail _ _ (Value.ref _) (Value.str _ _)) _ _ _); k_dflt (refine kda_item (knd := PySem.strKind _ _) (by k_asm) (by k_mem) (by k_asm) (strKind_is _ _ _ _) (by first | k_asm | rfl) ?_)))
  k_with "call ref" => ((k_here; (with_reducible show wpAny _ _ (call (Value.ref 772) _) _ _ _); k_dflt (refine' place_own ?q24F ?q24N ?q24X ?q24T ?q24r ?q24m1 ?q24hd ?q24lo ?q24hk ?q24hc ?_; (case q24F => k_asm); (case q24N => k_asm); (case q24X => k_asm); (case q24T => k_asm); (case q24r => k_room); (case q24m1 => k_mem); (case q24hd => k_asm); (case q24lo => k_asm); (case q24hk => (first | with_reducible assumption | rfl)); (case q24hc => (first | k_asm | omega)); k_whole); (intro z9h' z9tk' z9t' z9F' z9N'); (try k_sweep)))
  k_with "call ref" => ((k_here; (with_reducible show wpAny _ _ (call (Value.ref 772) _) _ _ _); k_dflt (refine' place_bare ?q24F ?q24N ?q24X ?q24T ?q24r ?q24m1 ?q24hd ?q24lo ?q24hk ?q24hc ?_; (case q24F => k_asm); (case q24N => k_asm); (case q24X => k_asm); (case q24T => k_asm); (case q24r => k_room); (case q24m1 => k_mem); (case q24hd => k_asm); (case q24lo => k_asm); (case q24hk => (first | with_reducible assumption | rfl)); (case q24hc => (first | k_asm | omega)); k_whole); (intro z9h' z9tk' z9t' z9F' z9N'); (try k_sweep)))
  k_with "call ref" => ((k_here; (with_reducible show wpAny _ _ (call (Value.ref 779) _) _ _ _); k_dflt (refine' value_own ?q24F ?q24N ?q24X ?q24T ?q24r ?q24m1 ?q24m2 ?q24m3 ?q24hd ?q24hd2 ?q24hd3 ?q24lo ?q24lo2 ?q24lo3 ?q24hk ?q24hc ?q24hk2 ?q24hk3 ?q24hx ?_; (case q24F => k_asm); (case q24N => k_asm); (case q24X => k_asm); (case q24T => k_asm); (case q24r => k_room); (case q24m1 => k_mem); (case q24hd => k_asm); (case q24lo => k_asm); (case q24hk => (first | with_reducible assumption | rfl)); (case q24hc => (first | k_asm | omega)); (case q24hk2 => (first | with_reducible assumption | rfl)); (case q24hk3 => (first | with_reducible assumption | rfl)); (case q24m2 => k_mem); (case q24m3 => k_mem); (case q24hd2 => k_asm); (case q24hd3 => k_asm); (case q24lo2 => k_asm); (case q24lo3 => k_asm); (case q24hx => (with_reducible assumption)); k_whole); (intro z9h' z9tk' z9F' z9N'); (try k_sweep)))
  k_with "call ref" => ((k_here; (with_reducible show wpAny _ _ (call (Value.ref 779) _) _ _ _); k_dflt (refine' value_bare ?q24F ?q24N ?q24X ?q24T ?q24r ?q24m1 ?q24m2 ?q24m3 ?q24hd ?q24hd2 ?q24hd3 ?q24lo ?q24lo2 ?q24lo3 ?q24hk ?q24hc ?q24hk2 ?q24hk3 ?q24hx ?_; (case q24F => k_asm); (case q24N => k_asm); (case q24X => k_asm); (case q24T => k_asm); (case q24r => k_room); (case q24m1 => k_mem); (case q24hd => k_asm); (case q24lo => k_asm); (case q24hk => (first | with_reducible assumption | rfl)); (case q24hc => (first | k_asm | omega)); (case q24hk2 => (first | with_reducible assumption | rfl)); (case q24hk3 => (first | with_reducible assumption | rfl)); (case q24m2 => k_mem); (case q24m3 => k_mem); (case q24hd2 => k_asm); (case q24hd3 => k_asm); (case q24lo2 => k_asm); (case q24lo3 => k_asm); (case q24hx => (with_reducible assumption)); k_whole); (intro z9h' z9tk' z9F' z9N'); (try k_sweep)))
  k_with "call builtin:dict.get" => ((k_here; k_dflt (first
  | refine get2x (knd := PySem.strKind _ _) (by k_asm) (by k_mem) (by k_asm) (by k_asm) (strKind_is _ _ _ _) (by with_reducible assumption) ?_
  | refine get2x (knd := PySem.intKind _ _) (by k_asm) (by k_mem) (by k_asm) (by k_asm) (intKind_is _ _ _ _) (by with_reducible assumption) ?_)))
  k_with "subscriptTail" => ((k_here; (with_reducible show wpAny _ _ (subscriptTail _ _ (Value.ref _) (Value.str _ _)) _ _ _); k_dflt (refine kda_item (knd := PySem.strKind _ _) (by k_asm) (by k_mem) (by k_asm) (strKind_is _ _ _ _) (by first | with_reducible assumption | exact valueAt_stored_self _ _ _ | rfl) ?_)))
  k_with "compareOp NotEq" => ((k_here; k_dflt (refine ne_same (by k_asm) ?_)))
  k_with "chg2" => (first | exact Chg2.head | (refine' Chg2.tail ?q34c; (case q34c => k_extra "chg2")))
  k_with "chgF" => (first | exact ChgF.head | (refine' ChgF.tail ?q35c; (case q35c => k_extra "chgF")))
  k_with "myupd" => (first | (refine' upd_of ?q36nd ?q36c; (case q36nd => assumption); (case q36c => k_extra "chg2")) | (refine' Upd.tail ?q36a ?q36b; (case q36a => (refine neN ?_; (try dsimp only); omega)); (case q36b => k_extra "myupd")))
  k_with "myupdF" => (first | (refine' updF_of ?q37nd ?q37c; (case q37nd => assumption); (case q37c => k_extra "chgF")) | (refine' UpdF.tail ?q37a ?q37b; (case q37a => (refine neN ?_; (try dsimp only); omega)); (case q37b => k_extra "myupdF")))
  k_with "k_upd" => (k_extra "myupd")
  k_with "k_updF" => (k_extra "myupdF")
  k_with "compareOp Is ref ref" => ((with_reducible refine wpAny_is_ref_self ?_))
  k_with "compareOp IsNot ref ref" => ((with_reducible refine wpAny_isNot_ref_self ?_))
  k_with "k_mem" => (first | (with_reducible refine sym_mem ?_; with_reducible assumption) | ((with_reducible show _ ∈ symL _ _); with_reducible assumption))
  k_with "compareOp NotEq str str" => ((with_reducible refine ne_str_same ?_))
  k_with "call ref" => ((k_here; (with_reducible show wpAny _ _ (call (Value.ref 467) _) _ _ _); k_dflt (refine' own_w2 ?q24F ?q24N ?q24X ?q24T ?q24r ?q24m1 ?q24m2 ?q24m3 ?q24m4 ?q24m5 ?q24m6 ?q24O ?q24hk ?_; (case q24F => k_asm); (case q24N => k_asm); (case q24X => k_asm); (case q24T => k_asm); (case q24r => k_room); (case q24m1 => k_mem); (case q24m2 => k_mem); (case q24m3 => k_mem); (case q24m4 => k_mem); (case q24m5 => k_mem); (case q24m6 => k_mem); (case q24O => k_asm); (case q24hk => (first | with_reducible assumption | omega)); k_whole); (intro z9h' z9tk' z9F' z9N'); (try k_sweep)))
  k_with "call ref" => ((k_here; (with_reducible show wpAny _ _ (call (Value.ref 467) _) _ _ _); k_dflt (refine' own_w0 ?q24F ?q24N ?q24X ?q24T ?q24r ?q24m1 ?q24m2 ?q24m3 ?q24m4 ?q24m5 ?q24m6 ?q24O ?q24hk ?q24h0 ?q24h2 ?_; (case q24F => k_asm); (case q24N => k_asm); (case q24X => k_asm); (case q24T => k_asm); (case q24r => k_room); (case q24m1 => k_mem); (case q24m2 => k_mem); (case q24m3 => k_mem); (case q24m4 => k_mem); (case q24m5 => k_mem); (case q24m6 => k_mem); (case q24O => k_asm); (case q24hk => (first | with_reducible assumption | omega)); (case q24h0 => omega); (case q24h2 => omega); k_whole); (intro z9h' z9tk' z9F' z9N'); (try k_sweep)))
  trivial
section
variable {w : World} {A : Around} {E : Value → Shared → Prop} {s : Shared} {L : Addr} {h₀ : Heap} {m mg mb : Str → Option Value}
  {news : List (Addr × Obj)} {p : Program} {loose : List Str}
theorem is_as_c (c : WA) (m' : WM) {Q : Value → Shared → Prop} {n : Nat}
   (F : Fr h₀ L s.heap m) (N : News h₀ L s.heap (coreE w.params c m' ++ symL w.params m'.syms)) (X : (hd.heap_1 w.params).In h₀) (T : TopRead p loose mg mb h₀) (hr : A.depth + 10 < recursionLimit) (hA : A.handled = none)
   (ND : (List.map Prod.fst (coreE w.params c m' ++ symL w.params m'.syms)).Nodup) (O : WOk w c) (I : MOk w c m') (Cp : Cap n m') (hn : n ≤ 500)
   (h : ∀ h' tk' m2, Fr h₀ L h' m → News h₀ L h' (coreE w.params c m2 ++ symL w.params m2.syms) → (List.map Prod.fst (coreE w.params c m2 ++ symL w.params m2.syms)).Nodup → MOk w c m2 → Cap (n + 3) m2 →
     Keep s.heap h' (coreE w.params c m' ++ symL w.params m'.syms) → NewK s.heap (coreE w.params c m' ++ symL w.params m'.syms) (coreE w.params c m2 ++ symL w.params m2.syms) → Q (.bool true) { s with heap := h', toks := tk' }) :
   wpAny (model PySem.Challenge.rw_ok0067_01.row.prog w) A (call (.ref 793) [.ref c.W, .ref c.H, .ref c.Kn]) Q E s := by
  have N1 := N
  k_extra "my_enter"
  k_steps
  rename News _ _ _ ((_, _) :: _) => N2
  rename Fr _ _ _ _ => F2
  rename Addr => tu
  rename ∀ p : Addr × Obj, _ → p.1 < tu => l2
  obtain ⟨to0, vs0, n0, hc0, hd0, hv0, hl0, N3⟩ := abs3 N2
  with_unfolding_all refine' iter_tupTurns (by first | rfl | assumption) F2 N3 (List.Mem.head _) hc0 hd0 ?rest
  case rest =>
    intro It lI
    clear N2
    refine items_of2 "symbol" "name" (fun vs news => ∃ (m1 : WM), news = (tu, to0) :: (coreE w.params c m1 ++ symL w.params m1.syms) ∧ (List.map Prod.fst ((tu, to0) :: (coreE w.params c m1 ++ symL w.params m1.syms))).Nodup ∧ (∀ p ∈ news, p.1 ≠ It) ∧ MOk w c m1 ∧ Cap (n + 3 - vs.length) m1 ∧ vs.length ≤ 3 ∧
      (∀ v ∈ vs, ∃ nm t, v = Value.str nm t ∧ nm ≠ "nil" ∧ nm ≠ "t")) ?step ?fin ?init
    case init => 
      refine ⟨m', rfl, ?_, fun p hp => Nat.ne_of_lt (lI p hp), I, ?_, by omega, hv0⟩
      · refine List.nodup_cons.mpr ⟨fun q => ?_, ND⟩
        obtain ⟨p, hp, e⟩ := List.mem_map.mp q
        exact absurd (l2 p hp) (by rw [e]; exact Nat.lt_irrefl _)
      · rw [hl0]; exact Cp
    case fin => 
      clear F2 N3
      rintro a9 b9 news h9 tk9 ⟨m1, rfl, ND1, hI, I1, C1, hl, hv⟩ F9 N9
      have i1 := I1.nm
      have s1 := O.s1
      have N10 := N9
      simp only [coreE, coreV, List.cons_append, List.nil_append] at N10
      clear N9
      k_steps
      refine back_all (l := coreE w.params c m1 ++ symL w.params m1.syms) (by assumption) (by assumption) (by assumption) (fun p hp => List.mem_cons_of_mem _ hp) ?_
      intro F N K W
      exact h _ _ m1 F N (List.nodup_cons.mp ND1).2 I1 C1 K W
    case step => 
      clear F2 N3
      rintro v r a9 b9 news h9 tk9 it ⟨m1, rfl, ND1, hI, I1, C1, hl, hv⟩ hc F9 N9
      obtain ⟨nm, t, rfl, hn1, hn2⟩ := hv v (List.mem_cons_self ..)
      have ND2 : (List.map Prod.fst ((It, it) :: (tu, to0) :: (coreE w.params c m1 ++ symL w.params m1.syms))).Nodup := List.nodup_cons.mpr ⟨fun q => by
        obtain ⟨p, hp, e⟩ := List.mem_map.mp q
        exact hI p hp e, ND1⟩
      have i1 := I1.nm; have i2 := I1.fn; have i3 := I1.df; have i4 := I1.bv; have i5 := I1.lv; have i6 := I1.H; have i7 := I1.hd; have i8 := I1.hb; have i9 := I1.hw; have i10 := I1.hf; have i11 := I1.K
      have s1 := O.s1; have s2 := O.s2; have s3 := O.s3; have s5 := O.s5; have s6 := O.s6; have s7 := O.s7; have s8 := O.s8; have s9 := O.s9; have s10 := O.s10; have s11 := O.s11; have s12 := O.s12
      have c0 := I1.c0; have c2 := I1.c2
      have k1 := C1.sy; have k2 := C1.kk
      have N10 : News _ _ _ ((It, it) :: (tu, to0) :: (coreE w.params c m1 ++ symL w.params m1.syms)) := N9
      have ND3 := ND2
      simp only [coreE, coreV, List.cons_append, List.nil_append] at N10 ND3
      clear N9
      rcases find_sy m1.syms nm with ⟨⟨ya, yda, yt1, yt2, ytn, ytm, yk, yname⟩, hy, hyn⟩ | hnew
      · have hyn' : yname = nm := hyn
        subst hyn'
        clear hyn
        have f1 : valueAt (namesK m1.syms) yname = some (.ref ya) := namesK_at I1.sy hy
        have f2 : (valueAt m1.Kk yname).getD (.ref ya) = .ref ya := by
          cases q : valueAt m1.Kk yname with
          | none => rfl
          | some u =>
            obtain ⟨z, hz, e, e2⟩ := I1.kn _ _ q
            have := I1.sy.of_name hz hy e
            subst this
            exact e2
        have f3 : (rowsV m1.syms)[yk.toNat]? = some (Value.ref ya) := rowsV_at I1.sy hy
        obtain ⟨f4, f5⟩ : 0 ≤ yk ∧ yk < (m1.syms.length : Int) + 2 := I1.sy.k_le hy
        obtain ⟨f, hf1, hf2⟩ : ∃ f, (valueAt m1.Fk yk).getD (.ref 64) = .ref f ∧ (valueAt m1.Hf yname).getD (.ref 64) = .ref f := by
          rw [show (valueAt m1.Fk yk).getD (.ref 64) = (valueAt m1.Hf yname).getD (.ref 64) from I1.rf.getD hy _]
          cases q : valueAt m1.Hf yname with
          | none => exact ⟨64, rfl, rfl⟩
          | some u => obtain ⟨f, rfl⟩ := I1.gf _ _ q; exact ⟨f, rfl, rfl⟩
        have ym1 : (ya, instObj 58 yda) ∈ symL w.params m1.syms := symL_mem1 hy
        have ym2 : (yda, symO w.params yt1 yt2 yk ytn yname ytm) ∈ symL w.params m1.syms := symL_mem2 hy
        by_cases hcur : m1.cur = 2
        · obtain ⟨v, hv1, hv2, gv⟩ : ∃ v, (valueAt m1.Ok yk).getD ((valueAt m1.Dk yk).getD .none) = v ∧ (valueAt m1.Hw yname).getD ((valueAt m1.Hd yname).getD .none) = v ∧ GoodV v :=
            ⟨_, by rw [show (valueAt m1.Dk yk).getD .none = (valueAt m1.Hd yname).getD .none from I1.rd.getD hy _]; exact I1.ro.getD hy _, rfl, getD_good I1.go I1.gd _⟩
          show wpAny _ _ _ _ _ _
          k_fold
          k_steps
          rename News _ _ _ ((_, _) :: (_, _) :: (_, _) :: _) => N11
          rename Obj.IsDictOf _ _ (stored m1.Kk _ _) => hK
          obtain ⟨oK, hK2, N12⟩ := pack1 (pre := [(It, it), (tu, to0)]) (m1 := m1) (c := c) (k := stored m1.Kk yname (.ref ya)) (D := fun o => o.IsDictOf _ (stored m1.Kk yname (.ref ya))) hK N11
          have ND4 : (List.map Prod.fst ((It, it) :: (tu, to0) :: (coreE w.params c { m1 with KO := oK, Kk := stored m1.Kk yname (.ref ya) } ++ symL w.params m1.syms))).Nodup := ND2
          have off : ∀ p ∈ (tu, to0) :: (coreE w.params c { m1 with KO := oK, Kk := stored m1.Kk yname (.ref ya) } ++ symL w.params m1.syms), p.1 ≠ It := fun p hp e => (List.nodup_cons.mp ND4).1 (List.mem_map.mpr ⟨p, hp, e⟩)
          have kl := stored_length_le m1.Kk yname (.ref ya)
          simp only [List.length_cons] at hl k2 C1
          refine ⟨_, _, _, (tu, to0) :: (coreE w.params c { m1 with KO := oK, Kk := stored m1.Kk yname (.ref ya) } ++ symL w.params m1.syms), rfl, by assumption, N12, fun p hp q hq => by rw [List.mem_singleton.mp hq]; exact off p hp, ⟨List.Mem.head _, trivial⟩, ⟨_, _, mapSN_again _ _ _ _ _ _ _⟩, { m1 with KO := oK, Kk := stored m1.Kk yname (.ref ya) }, rfl, (List.nodup_cons.mp ND4).2, off, I1.setK hK2 (kn_stored I1.kn hy), C1.setK (by omega) (by show (stored m1.Kk yname (.ref ya)).length ≤ _; omega), by omega, fun v hv' => hv v (List.mem_cons_of_mem _ hv')⟩
        · obtain ⟨v, hv1, hv2, gv⟩ : ∃ v, (valueAt m1.Bk yk).getD ((valueAt m1.Dk yk).getD .none) = v ∧ (valueAt m1.Hb yname).getD ((valueAt m1.Hd yname).getD .none) = v ∧ GoodV v :=
            ⟨_, by rw [show (valueAt m1.Dk yk).getD .none = (valueAt m1.Hd yname).getD .none from I1.rd.getD hy _]; exact I1.rb.getD hy _, rfl, getD_good I1.gb I1.gd _⟩
          show wpAny _ _ _ _ _ _
          k_fold
          k_steps
          rename News _ _ _ ((_, _) :: (_, _) :: (_, _) :: _) => N11
          rename Obj.IsDictOf _ _ (stored m1.Kk _ _) => hK
          obtain ⟨oK, hK2, N12⟩ := pack1 (pre := [(It, it), (tu, to0)]) (m1 := m1) (c := c) (k := stored m1.Kk yname (.ref ya)) (D := fun o => o.IsDictOf _ (stored m1.Kk yname (.ref ya))) hK N11
          have ND4 : (List.map Prod.fst ((It, it) :: (tu, to0) :: (coreE w.params c { m1 with KO := oK, Kk := stored m1.Kk yname (.ref ya) } ++ symL w.params m1.syms))).Nodup := ND2
          have off : ∀ p ∈ (tu, to0) :: (coreE w.params c { m1 with KO := oK, Kk := stored m1.Kk yname (.ref ya) } ++ symL w.params m1.syms), p.1 ≠ It := fun p hp e => (List.nodup_cons.mp ND4).1 (List.mem_map.mpr ⟨p, hp, e⟩)
          have kl := stored_length_le m1.Kk yname (.ref ya)
          simp only [List.length_cons] at hl k2 C1
          refine ⟨_, _, _, (tu, to0) :: (coreE w.params c { m1 with KO := oK, Kk := stored m1.Kk yname (.ref ya) } ++ symL w.params m1.syms), rfl, by assumption, N12, fun p hp q hq => by rw [List.mem_singleton.mp hq]; exact off p hp, ⟨List.Mem.head _, trivial⟩, ⟨_, _, mapSN_again _ _ _ _ _ _ _⟩, { m1 with KO := oK, Kk := stored m1.Kk yname (.ref ya) }, rfl, (List.nodup_cons.mp ND4).2, off, I1.setK hK2 (kn_stored I1.kn hy), C1.setK (by omega) (by show (stored m1.Kk yname (.ref ya)).length ≤ _; omega), by omega, fun v hv' => hv v (List.mem_cons_of_mem _ hv')⟩
      · have hkk : (((rowsV m1.syms).length : Nat) : Int) = (m1.syms.length : Int) + 2 := by rw [rowsV_length]; omega
        have f1 : valueAt (namesK m1.syms) nm = none := namesK_none hnew hn1 hn2
        have f2 : valueAt m1.Kk nm = none := by
          cases q : valueAt m1.Kk nm with
          | none => rfl
          | some u =>
            obtain ⟨z, hz, e, e2⟩ := I1.kn _ _ q
            exact absurd e (hnew z hz)
        have r1 : (rowsV m1.syms).length ≤ 900 := by rw [rowsV_length]; omega
        have r2 : (namesK m1.syms).length ≤ 900 := by rw [namesK_length]; omega
        have hf1 : (valueAt m1.Fk ((rowsV m1.syms).length : Int)).getD (.ref 64) = .ref 64 := by rw [I1.rf.new_k I1.sy hkk]; rfl
        have hf2 : (valueAt m1.Hf nm).getD (.ref 64) = .ref 64 := by rw [I1.rf.new_n hnew]; rfl
        by_cases hcur : m1.cur = 2
        · have hv1 : (valueAt m1.Ok ((rowsV m1.syms).length : Int)).getD ((valueAt m1.Dk ((rowsV m1.syms).length : Int)).getD .none) = .none := by rw [I1.ro.new_k I1.sy hkk, I1.rd.new_k I1.sy hkk]; rfl
          have hv2 : (valueAt m1.Hw nm).getD ((valueAt m1.Hd nm).getD .none) = .none := by rw [I1.ro.new_n hnew, I1.rd.new_n hnew]; rfl
          show wpAny _ _ _ _ _ _
          k_fold
          k_steps
          rename News _ _ _ ((_, _) :: (_, _) :: (_, _) :: _) => N11
          rename Obj.IsDictOf _ _ (stored m1.Kk _ _) => hK
          rename Obj.IsDictOf _ _ (stored (namesK m1.syms) _ _) => hN
          rename List.Nodup _ => ND9
          simp only [List.length_cons] at hl k1 k2 C1
          obtain ⟨m2, N12, ND4, I2, C2⟩ := pack3 (pre := [(It, it), (tu, to0)]) (m1 := m1) (c := c) (y := ⟨_, _, _, _, _, _, _, _⟩) (n' := n + 3 - r.length) hN hK N11 ND9 I1 C1 (by omega) rfl hnew hn1 hn2
          have off : ∀ p ∈ (tu, to0) :: (coreE w.params c m2 ++ symL w.params m2.syms), p.1 ≠ It := fun p hp e => (List.nodup_cons.mp ND4).1 (List.mem_map.mpr ⟨p, hp, e⟩)
          exact ⟨_, _, _, (tu, to0) :: (coreE w.params c m2 ++ symL w.params m2.syms), rfl, by assumption, N12, fun p hp q hq => by rw [List.mem_singleton.mp hq]; exact off p hp, ⟨List.Mem.head _, trivial⟩, ⟨_, _, mapSN_again _ _ _ _ _ _ _⟩, m2, rfl, (List.nodup_cons.mp ND4).2, off, I2, C2, by omega, fun v hv' => hv v (List.mem_cons_of_mem _ hv')⟩
        · have hv1 : (valueAt m1.Bk ((rowsV m1.syms).length : Int)).getD ((valueAt m1.Dk ((rowsV m1.syms).length : Int)).getD .none) = .none := by rw [I1.rb.new_k I1.sy hkk, I1.rd.new_k I1.sy hkk]; rfl
          have hv2 : (valueAt m1.Hb nm).getD ((valueAt m1.Hd nm).getD .none) = .none := by rw [I1.rb.new_n hnew, I1.rd.new_n hnew]; rfl
          show wpAny _ _ _ _ _ _
          k_fold
          k_steps
          rename News _ _ _ ((_, _) :: (_, _) :: (_, _) :: _) => N11
          rename Obj.IsDictOf _ _ (stored m1.Kk _ _) => hK
          rename Obj.IsDictOf _ _ (stored (namesK m1.syms) _ _) => hN
          rename List.Nodup _ => ND9
          simp only [List.length_cons] at hl k1 k2 C1
          obtain ⟨m2, N12, ND4, I2, C2⟩ := pack3 (pre := [(It, it), (tu, to0)]) (m1 := m1) (c := c) (y := ⟨_, _, _, _, _, _, _, _⟩) (n' := n + 3 - r.length) hN hK N11 ND9 I1 C1 (by omega) rfl hnew hn1 hn2
          have off : ∀ p ∈ (tu, to0) :: (coreE w.params c m2 ++ symL w.params m2.syms), p.1 ≠ It := fun p hp e => (List.nodup_cons.mp ND4).1 (List.mem_map.mpr ⟨p, hp, e⟩)
          exact ⟨_, _, _, (tu, to0) :: (coreE w.params c m2 ++ symL w.params m2.syms), rfl, by assumption, N12, fun p hp q hq => by rw [List.mem_singleton.mp hq]; exact off p hp, ⟨List.Mem.head _, trivial⟩, ⟨_, _, mapSN_again _ _ _ _ _ _ _⟩, m2, rfl, (List.nodup_cons.mp ND4).2, off, I2, C2, by omega, fun v hv' => hv v (List.mem_cons_of_mem _ hv')⟩
end
section
variable {M : Model} {A : Around} {E : Value → Shared → Prop} {s : Shared} {env : Env} {rest : List Stmt}
theorem execs_app (J : Shared → Prop) {Q : Flow → Shared → Prop} : ∀ (l : List Stmt) (s : Shared), wpAny M A (execs l env) (fun f s' => f = .next ∧ J s') E s → (∀ s', J s' → wpAny M A (execs rest env) Q E s') → wpAny M A (execs (l ++ rest) env) Q E s := by
  intro l s h1 h2 Γ p hΓ
  have h := h1 Γ p hΓ
  clear h1
  induction l generalizing p s with
  | nil => exact h2 _ (show _ ∧ _ from h).2 Γ p hΓ
  | cons a l ih =>
    rw [execs_cons, Sem.wp_bind'] at h
    rw [List.cons_append, execs_cons, Sem.wp_bind']
    refine Sem.wp_mono M Γ (exec a env) (fun fl p' s' h' => ?_) (fun _ _ _ e => e) p s h
    cases fl with
    | next => exact ih s' p' h'
    | ret v => exact absurd (show _ ∧ _ from h').1 (by intro e; cases e)
    | brk => exact absurd (show _ ∧ _ from h').1 (by intro e; cases e)
    | cont => exact absurd (show _ ∧ _ from h').1 (by intro e; cases e)
def Mid (g : Heap) (L : Addr) (fm0 : PySem.Str → Option Value) (J : (PySem.Str → Option Value) → (PySem.Str → Option Value) → List (Addr × Obj) → Prop) (s : Shared) (f : Flow) (s' : Shared) : Prop :=
  f = .next ∧ ∃ h' tk' fm' news', s' = { s with heap := h', toks := tk' } ∧ Fr g L h' fm' ∧ News g L h' news' ∧ J fm0 fm' news'
theorem Mid.intro {g h' : Heap} {L : Addr} {fm0 fm' : PySem.Str → Option Value} {J : (PySem.Str → Option Value) → (PySem.Str → Option Value) → List (Addr × Obj) → Prop} {news' : List (Addr × Obj)} {s : Shared} {tk' : Nat} (F : Fr g L h' fm') (N : News g L h' news') (j : J fm0 fm' news') :
    Mid g L fm0 J s .next { s with heap := h', toks := tk' } := ⟨rfl, h', tk', fm', news', rfl, F, N, j⟩
theorem split_st {g h : Heap} {L : Addr} {fm0 : PySem.Str → Option Value} {a b : Stmt} {Q : Flow → Shared → Prop} (_F : Fr g L h fm0) (J : (PySem.Str → Option Value) → (PySem.Str → Option Value) → List (Addr × Obj) → Prop)
    (h1 : wpAny M A (execs [a, b] env) (fun f s' => Mid g L fm0 J s f s') E s)
    (h2 : ∀ h' tk' fm' news', Fr g L h' fm' → News g L h' news' → J fm0 fm' news' → wpAny M A (execs rest env) Q E { s with heap := h', toks := tk' }) : wpAny M A (execs (a :: b :: rest) env) Q E s :=
  execs_app (fun s' => ∃ h' tk' fm' news', s' = { s with heap := h', toks := tk' } ∧ Fr g L h' fm' ∧ News g L h' news' ∧ J fm0 fm' news') [a, b] s h1 fun s' ⟨h', tk', fm', news', e, F', N', j⟩ => e ▸ h2 h' tk' fm' news' F' N' j
end
section
variable {prog : Program} {w : World} {A : Around} {E : Value → Shared → Prop} {s : Shared} {h₀ : Heap} {L D : Addr} {m : Str → Option Value} {news news' : List (Addr × Obj)} {vs : List Value} {n : Nat}
theorem menu3 {value slice : PySem.Expr} {k : Int} {u : Tok} {Q : Value → Shared → Prop} (N : News h₀ L s.heap news) (hm : (D, listOf vs.toArray n) ∈ news) (h0 : 0 ≤ k) (hP : ∀ v ∈ vs, ∃ nm t, v = Value.str nm t ∧ nm ≠ "nil" ∧ nm ≠ "t") (hl : vs.length = 3) (hk : k < 3)
    (h : ∀ (nm : PySem.Str) (t : Tok), nm ≠ "nil" → nm ≠ "t" → Q (.str nm t) s)
    (hs : subscripted slice false (.ref D) (.int k u) = operate [.ref D, .int k u] (getItem (.ref D) (.int k u)) := by with_unfolding_all rfl) : wpAny (model prog w) A (subscriptTail value slice (.ref D) (.int k u)) Q E s := by
  have hlt : k.toNat < vs.length := by omega
  obtain ⟨nm, t, e, h1, h2⟩ := hP vs[k.toNat] (List.getElem_mem hlt)
  have hx : vs[k.toNat]? = some (Value.str nm t) := by rw [List.getElem?_eq_getElem hlt, e]
  exact my_tail N hm h0 (by omega) hx (h nm t h1 h2) hs
theorem menuC {c : WA} {value slice : PySem.Expr} {k : Int} {u : Tok} {Q : Value → Shared → Prop} (N : News h₀ L s.heap news) (hm : (D, listOf [Value.none, .ref c.b1, .ref c.b2].toArray n) ∈ news) (h0 : 0 ≤ k) (hk : k < 3)
    (h : Q (curV c k) s)
    (hs : subscripted slice false (.ref D) (.int k u) = operate [.ref D, .int k u] (getItem (.ref D) (.int k u)) := by with_unfolding_all rfl) : wpAny (model prog w) A (subscriptTail value slice (.ref D) (.int k u)) Q E s := by
  rcases (show k = 0 ∨ k = 1 ∨ k = 2 by omega) with rfl | rfl | rfl
  · exact my_tail N hm h0 (by omega) rfl (by simpa [curV] using h) hs
  · exact my_tail N hm h0 (by omega) rfl (by simpa [curV] using h) hs
  · exact my_tail N hm h0 (by omega) rfl (by simpa [curV] using h) hs
end
abbrev potL (P xs : Addr) (k0 sd : Int) (ta ts : Tok) (n1 n2 : Nat) (us : List Value) : List (Addr × Obj) := [(P, listOf [Value.ref xs, .int k0 ta, .int sd ts].toArray n1), (xs, listOf us.toArray n2)]
theorem pack4 {w : World} {g h' : Heap} {L : Addr} {c : WA} {m1 : WM} {oN : Obj} {r n n' : Nat} {pre : List (Addr × Obj)} {y : Sy}
    (hN : oN.IsDictOf (PySem.strKind PySem.Challenge.rw_ok0067_01.row.prog w) (stored (namesK m1.syms) y.name (.ref y.a)))
    (N : News g L h' ((y.a, instObj 58 y.da) :: (y.da, symO w.params y.t1 y.t2 y.k y.tn y.name y.tm) :: (pre ++ (coreV w.params c { m1 with nmO := oN, rn := r, syms := m1.syms ++ [y] } (rowsV m1.syms ++ [Value.ref y.a]) ++ symL w.params m1.syms))))
    (ND : (((y.a, instObj 58 y.da) :: (y.da, symO w.params y.t1 y.t2 y.k y.tn y.name y.tm) :: (pre ++ (coreV w.params c { m1 with nmO := oN, rn := r, syms := m1.syms ++ [y] } (rowsV m1.syms ++ [Value.ref y.a]) ++ symL w.params m1.syms))).map Prod.fst).Nodup)
    (I : MOk w c m1) (C : Cap n m1) (hn : n < n') (hk : y.k = ((rowsV m1.syms).length : Int)) (hnew : ∀ z ∈ m1.syms, z.name ≠ y.name) (h1 : y.name ≠ "nil") (h2 : y.name ≠ "t") :
    ∃ m2, News g L h' (pre ++ (coreE w.params c m2 ++ symL w.params m2.syms)) ∧ ((pre ++ (coreE w.params c m2 ++ symL w.params m2.syms)).map Prod.fst).Nodup ∧ MOk w c m2 ∧ Cap n' m2 ∧ y ∈ m2.syms ∧ m2.cur = m1.cur := by
  have e : coreE w.params c { m1 with nmO := oN, rn := r, syms := m1.syms ++ [y] } = coreV w.params c { m1 with nmO := oN, rn := r, syms := m1.syms ++ [y] } (rowsV m1.syms ++ [Value.ref y.a]) := by
    rw [coreE, rowsV_grow]
  have hy : y ∈ m1.syms ++ [y] := List.mem_append_right _ (List.mem_singleton.mpr rfl)
  refine ⟨{ m1 with nmO := oN, rn := r, syms := m1.syms ++ [y] }, ?_, ?_, I.grow (r := r) hN hk hnew h1 h2, C.grow (o := oN) (y := y) (r := r) hn, hy, rfl⟩
  · rw [e, ← List.append_assoc]
    rw [← List.append_assoc] at N
    exact news_sub N mem_grow
  · rw [e, ← List.append_assoc]
    rw [← List.append_assoc] at ND
    exact nd_grow rfl ND
theorem news_tl {g h : Heap} {L : Addr} {p : Addr × Obj} {l : List (Addr × Obj)} (N : News g L h (p :: l)) : News g L h l := fun q hq => N q (.tail _ hq)
theorem as_pot {g h : Heap} {L P xs : Addr} {k1 sd : Int} {ta ts : Tok} {n1 n2 : Nat} {us : List Value} {R : List (Addr × Obj)} (N : News g L h (potL P xs k1 sd ta ts n1 n2 us ++ R)) :
    ∃ k1' sd' ta' ts' n1', k1' = k1 ∧ sd' = sd ∧ News g L h (potL P xs k1' sd' ta' ts' n1' n2 us ++ R) := ⟨k1, sd, ta, ts, n1, rfl, rfl, N⟩
def fmD (a b : Addr) (r1 r3 : Int) (t1 t2 t3 : Tok) (nm : PySem.Str) (fm0 : PySem.Str → Option Value) : PySem.Str → Option Value :=
  fun z => if z = "symbol" then some (.ref b) else if z = "mine" then some (.ref a) else if z = "way" then some (.int r1 t1) else if z = "name" then some (.str nm t2) else if z = "value" then some (.int r3 t3) else fm0 z
theorem as_map {g h : Heap} {L a b : Addr} {r1 r3 : Int} {t1 t2 t3 : Tok} {nm : PySem.Str} {fm0 : PySem.Str → Option Value} (F : Fr g L h (fmD a b r1 r3 t1 t2 t3 nm fm0)) :
    ∃ r1' r3' t1' t2' t3', r1' = r1 ∧ r3' = r3 ∧ Fr g L h (fmD a b r1' r3' t1' t2' t3' nm fm0) := ⟨r1, r3, t1, t2, t3, rfl, rfl, F⟩
theorem as_pot2 {Pm : Params} {g h : Heap} {L P xs : Addr} {k1 sd : Int} {ta ts : Tok} {n1 n2 : Nat} {us : List Value} {R : List (Addr × Obj)} {y : Sy} (N : News g L h ((y.a, instObj 58 y.da) :: (y.da, symO Pm y.t1 y.t2 y.k y.tn y.name y.tm) :: (potL P xs k1 sd ta ts n1 n2 us ++ R))) :
    ∃ k1' sd' ta' ts' n1', k1' = k1 ∧ sd' = sd ∧ News g L h ((y.a, instObj 58 y.da) :: (y.da, symO Pm y.t1 y.t2 y.k y.tn y.name y.tm) :: (potL P xs k1' sd' ta' ts' n1' n2 us ++ R)) := ⟨k1, sd, ta, ts, n1, rfl, rfl, N⟩
theorem nd_as {g h : Heap} {L : Addr} {l l0 : List (Addr × Obj)} (_N : News g L h l) (e : l.map Prod.fst = l0.map Prod.fst) (ND : (l0.map Prod.fst).Nodup) : (l.map Prod.fst).Nodup := e ▸ ND
theorem hereK_cur (c : WA) (m : WM) (k : Int) (t : Tok) : stored (hereK c m) "current" (.int k t) = hereK c { m with cur := k, ct := t } := by
  simp only [stored, hereK]; rfl
theorem hereK_mark (c : WA) (m : WM) (k : Int) (t : Tok) (l : Tok) : stored (hereK c m) "markers" (.int k t) = hereK c { m with lm := k, mt := t, lt := l } := by
  simp only [stored, hereK]; rfl
section
variable {w : World} {A : Around} {E : Value → Shared → Prop} {s : Shared} {L : Addr} {h₀ : Heap} {m mg mb : Str → Option Value}
  {news : List (Addr × Obj)} {p : Program} {loose : List Str}
theorem put_functions_f {W dW ob ce va ba dob rw nm dce fn pl fl f df ya yda : Addr} {u1 u2 u3 u4 u5 u6 u7 t1 t2 t3 t4 v1 v2 v3 v4 v5 v6 yt1 yt2 ytn ytm : Tok} {yk : Int} {yname : PySem.Str} {cur : Value} {lm : Int} {lt : Tok} {num fa fb : Value} {nf : Nat} {o o2 : Obj} {kvs : List (PySem.Str × Value)} {fvs : List (Int × Value)} {Q : Value → Shared → Prop}
   (F : Fr h₀ L s.heap m) (N : News h₀ L s.heap news) (X : (hd.heap_1 w.params).In h₀) (T : TopRead p loose mg mb h₀) (hr : A.depth + 4 < recursionLimit)
   (m1 : (W, instObj 484 dW) ∈ news) (m2 : (dW, worldO w.params u1 u2 u3 u4 u5 u6 u7 ob ce va ba cur lm lt) ∈ news)
   (m3 : (ob, instObj 302 dob) ∈ news) (m4 : (dob, obO w.params t1 t2 rw nm) ∈ news) (m5 : (nm, o) ∈ news)
   (m6 : (ce, instObj 225 dce) ∈ news) (m7 : (dce, cellsO w.params t3 t4 fn pl) ∈ news) (m8 : (fn, o2) ∈ news) (m9 : (ya, instObj 58 yda) ∈ news) (m10 : (yda, symO w.params yt1 yt2 yk ytn yname ytm) ∈ news)
   (m11 : (fl, listOf [Value.ref f].toArray nf) ∈ news) (m12 : (f, instObj 106 df) ∈ news) (m13 : (df, subO w.params v1 v2 v3 v4 v5 num yname v6 fa fb) ∈ news)
   (ND : [W, dW, ob, dob, nm, ce, dce, fn].Nodup) (n1 : fn ≠ ya) (n2 : fn ≠ yda) (n3 : fn ≠ f) (n4 : fn ≠ df) (n5 : fn ≠ fl)
   (lo : (nm == sysModules) = false) (hd' : o.IsDictOf (PySem.strKind PySem.Challenge.rw_ok0067_01.row.prog w) kvs) (hk : valueAt kvs yname = some (.ref ya))
   (hd2 : o2.IsDictOf (PySem.intKind PySem.Challenge.rw_ok0067_01.row.prog w) fvs) (hz : fvs.length ≤ 1000) (hA : A.handled = none)
   (h : ∀ h' tk' o', Fr h₀ L h' m → h'.get? fn = some o' → o'.IsDictOf (PySem.intKind PySem.Challenge.rw_ok0067_01.row.prog w) (stored fvs yk (.ref f)) → But s.heap h' fn → Q .none { s with heap := h', toks := tk' }) :
   wpAny (model PySem.Challenge.rw_ok0067_01.row.prog w) A (call (.ref 481) [.ref W, .ref fl]) Q E s :=
  put_functions_c (y := ⟨ya, yda, yt1, yt2, ytn, ytm, yk, yname⟩) F N X T hr m1 m2 m3 m4 m5 m6 m7 m8 m9 m10 m11 m12 m13 ND n1 n2 n3 n4 n5 lo hd' hk hd2 hz hA h
end
section
variable {w : World} {A : Around} {E : Value → Shared → Prop} {s : Shared} {L : Addr} {h₀ : Heap} {m mg mb : Str → Option Value}
  {news : List (Addr × Obj)} {p : Program} {loose : List Str}
theorem set_in_local2 {va lo dlo lv : Addr} {t4 t : Tok} {o2 : Obj} {lvs : List (Int × Value)} {k : Int} {x : Value} {Q : Value → Shared → Prop}
   (F : Fr h₀ L s.heap m) (N : News h₀ L s.heap news) (X : (hd.heap_1 w.params).In h₀) (T : TopRead p loose mg mb h₀) (hr : A.depth + 2 < recursionLimit)
   (m1 : (lo, instObj 421 dlo) ∈ news) (m2 : (dlo, locO w.params t4 lv) ∈ news) (m3 : (lv, o2) ∈ news) (ND : [lo, dlo, lv].Nodup)
   (l2 : (lv == sysModules) = false) (hd2 : o2.IsDictOf (PySem.intKind PySem.Challenge.rw_ok0067_01.row.prog w) lvs)
   (hk : (valueAt lvs k).isSome = true) (hz : lvs.length ≤ 1000)
   (h : ∀ h' tk' o', Fr h₀ L h' m → h'.get? lv = some o' → o'.IsDictOf (PySem.intKind PySem.Challenge.rw_ok0067_01.row.prog w) (stored lvs k x) → But s.heap h' lv → Q .none { s with heap := h', toks := tk' }) :
   wpAny (model PySem.Challenge.rw_ok0067_01.row.prog w) A (call (.ref 439) [.ref va, .ref lo, .int k t, x]) Q E s :=
  set_in_local (dva := 0) (df := 0) (au := 0) (pe := 0) (t1 := 0) (t2 := 0) (t3 := 0) (o := o2) (o3 := o2) (aus := []) F N X T hr m1 m2 m3 ND l2 hd2 hk hz h
end
theorem nd_same {pre A A' T : List (Addr × Obj)} (e : A'.map Prod.fst = A.map Prod.fst) (ND : ((pre ++ (A ++ T)).map Prod.fst).Nodup) : ((pre ++ (A' ++ T)).map Prod.fst).Nodup := by
  simp only [List.map_append] at *
  rw [e]; exact ND
theorem good_stored {kvs : List (PySem.Str × Value)} {P : Value → Prop} (h : ∀ n v, valueAt kvs n = some v → P v) {k : PySem.Str} {x : Value} (hx : P x) : ∀ n v, valueAt (stored kvs k x) n = some v → P v := by
  intro n v e
  rw [valueAt_stored] at e
  by_cases q : n = k
  · rw [if_pos q] at e; exact Option.some.inj e ▸ hx
  · rw [if_neg q] at e; exact h n v e
theorem good_without {kvs : List (PySem.Str × Value)} {P : Value → Prop} (h : ∀ n v, valueAt kvs n = some v → P v) {k : PySem.Str} : ∀ n v, valueAt (without kvs k) n = some v → P v := by
  intro n v e
  rw [valueAt_without] at e
  by_cases q : n = k
  · rw [if_pos q] at e; cases e
  · rw [if_neg q] at e; exact h n v e
theorem len_stored {K : Type} [DecidableEq K] {kvs : List (K × Value)} {k : K} {x : Value} {n : Nat} (h : kvs.length ≤ n) : (stored kvs k x).length ≤ n + 1 := Nat.le_trans (stored_length_le kvs k x) (by omega)
theorem len_without {K : Type} [DecidableEq K] {kvs : List (K × Value)} {k : K} {n : Nat} (h : kvs.length ≤ n) : (without kvs k).length ≤ n + 1 := Nat.le_trans (List.length_filter_le _ _) (by omega)
theorem off_sym {P : Params} {A : List (Addr × Obj)} {syms : List Sy} {a : Addr} {p : Addr × Obj} (ND : ((A ++ symL P syms).map Prod.fst).Nodup) (ha : a ∈ A.map Prod.fst) (hp : p ∈ symL P syms) : a ≠ p.1 := by
  rw [List.map_append] at ND
  exact (List.nodup_append.mp ND).2.2 a ha p.1 (List.mem_map_of_mem hp)
theorem nd_two {g h : Heap} {L : Addr} {l : List (Addr × Obj)} {x d : Addr} {ox od : Obj} (_N : News g L h ((x, ox) :: (d, od) :: l)) (ND : (l.map Prod.fst).Nodup) (l1 : ∀ p ∈ l, p.1 < d) (l2 : d < x) : (((x, ox) :: (d, od) :: l).map Prod.fst).Nodup := by
  have a1 : d ∉ l.map Prod.fst := fun q => by
    obtain ⟨p, hp, e⟩ := List.mem_map.mp q
    exact absurd (l1 p hp) (by rw [e]; exact Nat.lt_irrefl _)
  have a2 : x ∉ l.map Prod.fst := fun q => by
    obtain ⟨p, hp, e⟩ := List.mem_map.mp q
    exact absurd (Nat.lt_trans (l1 p hp) l2) (by rw [e]; exact Nat.lt_irrefl _)
  refine List.nodup_cons.mpr ⟨fun q => ?_, List.nodup_cons.mpr ⟨a1, ND⟩⟩
  rcases List.mem_cons.mp q with e | q
  · have e' : x = d := e
    exact absurd l2 (by rw [e']; exact Nat.lt_irrefl _)
  · exact a2 q
theorem wayD {w : World} {g h' : Heap} {L : Addr} {c : WA} {m1 : WM} {n : Nat} {pre : List (Addr × Obj)} {y : Sy} {o1 o2 : Obj} {v : Value}
    (h1 : o1.IsDictOf (PySem.intKind PySem.Challenge.rw_ok0067_01.row.prog w) (stored m1.Dk y.k v)) (h2 : o2.IsDictOf (PySem.strKind PySem.Challenge.rw_ok0067_01.row.prog w) (stored m1.Hd y.name v))
    (N : News g L h' (pre ++ (coreE w.params c { m1 with dfO := o1, Dk := stored m1.Dk y.k v, hdO := o2, Hd := stored m1.Hd y.name v } ++ symL w.params m1.syms)))
    (ND : ((pre ++ (coreE w.params c m1 ++ symL w.params m1.syms)).map Prod.fst).Nodup) (I : MOk w c m1) (C : Cap n m1) (hy : y ∈ m1.syms) (gv : GoodV v) :
    ∃ m2, News g L h' (pre ++ (coreE w.params c m2 ++ symL w.params m2.syms)) ∧ ((pre ++ (coreE w.params c m2 ++ symL w.params m2.syms)).map Prod.fst).Nodup ∧ MOk w c m2 ∧ Cap (n + 1) m2 := by
  have D := C.mono (Nat.le_succ n)
  exact ⟨{ m1 with dfO := o1, Dk := stored m1.Dk y.k v, hdO := o2, Hd := stored m1.Hd y.name v }, N, nd_same (A := coreE w.params c m1) (A' := coreE w.params c { m1 with dfO := o1, Dk := stored m1.Dk y.k v, hdO := o2, Hd := stored m1.Hd y.name v }) rfl ND, ⟨I.nm, I.fn, h1, I.bv, I.lv, I.H, h2, I.hb, I.hw, I.hf, I.K, I.sy, I.rf, I.rd.stored I.sy hy v, I.rb, I.ro, I.gf, good_stored I.gd gv, I.gb, I.go, I.kn, I.c0, I.c2, I.l0⟩, ⟨D.lm, D.sy, D.fk, len_stored C.dk, D.bk, D.ok, D.hf, len_stored C.hd, D.hb, D.hw, D.kk⟩⟩
theorem wayB {w : World} {g h' : Heap} {L : Addr} {c : WA} {m1 : WM} {n : Nat} {pre : List (Addr × Obj)} {y : Sy} {o1 o2 : Obj} {v : Value}
    (h1 : o1.IsDictOf (PySem.intKind PySem.Challenge.rw_ok0067_01.row.prog w) (stored m1.Bk y.k v)) (h2 : o2.IsDictOf (PySem.strKind PySem.Challenge.rw_ok0067_01.row.prog w) (stored m1.Hb y.name v))
    (N : News g L h' (pre ++ (coreE w.params c { m1 with bvO := o1, Bk := stored m1.Bk y.k v, hbO := o2, Hb := stored m1.Hb y.name v } ++ symL w.params m1.syms)))
    (ND : ((pre ++ (coreE w.params c m1 ++ symL w.params m1.syms)).map Prod.fst).Nodup) (I : MOk w c m1) (C : Cap n m1) (hy : y ∈ m1.syms) (gv : GoodV v) :
    ∃ m2, News g L h' (pre ++ (coreE w.params c m2 ++ symL w.params m2.syms)) ∧ ((pre ++ (coreE w.params c m2 ++ symL w.params m2.syms)).map Prod.fst).Nodup ∧ MOk w c m2 ∧ Cap (n + 1) m2 := by
  have D := C.mono (Nat.le_succ n)
  exact ⟨{ m1 with bvO := o1, Bk := stored m1.Bk y.k v, hbO := o2, Hb := stored m1.Hb y.name v }, N, nd_same (A := coreE w.params c m1) (A' := coreE w.params c { m1 with bvO := o1, Bk := stored m1.Bk y.k v, hbO := o2, Hb := stored m1.Hb y.name v }) rfl ND, ⟨I.nm, I.fn, I.df, h1, I.lv, I.H, I.hd, h2, I.hw, I.hf, I.K, I.sy, I.rf, I.rd, I.rb.stored I.sy hy v, I.ro, I.gf, I.gd, good_stored I.gb gv, I.go, I.kn, I.c0, I.c2, I.l0⟩, ⟨D.lm, D.sy, D.fk, D.dk, len_stored C.bk, D.ok, D.hf, D.hd, len_stored C.hb, D.hw, D.kk⟩⟩
theorem wayO {w : World} {g h' : Heap} {L : Addr} {c : WA} {m1 : WM} {n : Nat} {pre : List (Addr × Obj)} {y : Sy} {o1 o2 : Obj} {v : Value}
    (h1 : o1.IsDictOf (PySem.intKind PySem.Challenge.rw_ok0067_01.row.prog w) (stored m1.Ok y.k v)) (h2 : o2.IsDictOf (PySem.strKind PySem.Challenge.rw_ok0067_01.row.prog w) (stored m1.Hw y.name v))
    (N : News g L h' (pre ++ (coreE w.params c { m1 with lvO := o1, Ok := stored m1.Ok y.k v, hwO := o2, Hw := stored m1.Hw y.name v } ++ symL w.params m1.syms)))
    (ND : ((pre ++ (coreE w.params c m1 ++ symL w.params m1.syms)).map Prod.fst).Nodup) (I : MOk w c m1) (C : Cap n m1) (hy : y ∈ m1.syms) (gv : GoodV v) :
    ∃ m2, News g L h' (pre ++ (coreE w.params c m2 ++ symL w.params m2.syms)) ∧ ((pre ++ (coreE w.params c m2 ++ symL w.params m2.syms)).map Prod.fst).Nodup ∧ MOk w c m2 ∧ Cap (n + 1) m2 := by
  have D := C.mono (Nat.le_succ n)
  exact ⟨{ m1 with lvO := o1, Ok := stored m1.Ok y.k v, hwO := o2, Hw := stored m1.Hw y.name v }, N, nd_same (A := coreE w.params c m1) (A' := coreE w.params c { m1 with lvO := o1, Ok := stored m1.Ok y.k v, hwO := o2, Hw := stored m1.Hw y.name v }) rfl ND, ⟨I.nm, I.fn, I.df, I.bv, h1, I.H, I.hd, I.hb, h2, I.hf, I.K, I.sy, I.rf, I.rd, I.rb, I.ro.stored I.sy hy v, I.gf, I.gd, I.gb, good_stored I.go gv, I.kn, I.c0, I.c2, I.l0⟩, ⟨D.lm, D.sy, D.fk, D.dk, D.bk, len_stored C.ok, D.hf, D.hd, D.hb, len_stored C.hw, D.kk⟩⟩
theorem wayF {w : World} {g h' : Heap} {L : Addr} {c : WA} {m1 : WM} {n : Nat} {pre : List (Addr × Obj)} {y : Sy} {o1 o2 : Obj} {v : Value}
    (h1 : o1.IsDictOf (PySem.intKind PySem.Challenge.rw_ok0067_01.row.prog w) (stored m1.Fk y.k v)) (h2 : o2.IsDictOf (PySem.strKind PySem.Challenge.rw_ok0067_01.row.prog w) (stored m1.Hf y.name v))
    (N : News g L h' (pre ++ (coreE w.params c { m1 with fnO := o1, Fk := stored m1.Fk y.k v, hfO := o2, Hf := stored m1.Hf y.name v } ++ symL w.params m1.syms)))
    (ND : ((pre ++ (coreE w.params c m1 ++ symL w.params m1.syms)).map Prod.fst).Nodup) (I : MOk w c m1) (C : Cap n m1) (hy : y ∈ m1.syms) (gv : ∃ f, v = .ref f) :
    ∃ m2, News g L h' (pre ++ (coreE w.params c m2 ++ symL w.params m2.syms)) ∧ ((pre ++ (coreE w.params c m2 ++ symL w.params m2.syms)).map Prod.fst).Nodup ∧ MOk w c m2 ∧ Cap (n + 1) m2 := by
  have D := C.mono (Nat.le_succ n)
  exact ⟨{ m1 with fnO := o1, Fk := stored m1.Fk y.k v, hfO := o2, Hf := stored m1.Hf y.name v }, N, nd_same (A := coreE w.params c m1) (A' := coreE w.params c { m1 with fnO := o1, Fk := stored m1.Fk y.k v, hfO := o2, Hf := stored m1.Hf y.name v }) rfl ND, ⟨I.nm, h1, I.df, I.bv, I.lv, I.H, I.hd, I.hb, I.hw, h2, I.K, I.sy, I.rf.stored I.sy hy v, I.rd, I.rb, I.ro, good_stored I.gf gv, I.gd, I.gb, I.go, I.kn, I.c0, I.c2, I.l0⟩, ⟨D.lm, D.sy, len_stored C.fk, D.dk, D.bk, D.ok, len_stored C.hf, D.hd, D.hb, D.hw, D.kk⟩⟩
theorem wayBd {w : World} {g h' : Heap} {L : Addr} {c : WA} {m1 : WM} {n : Nat} {pre : List (Addr × Obj)} {y : Sy} {o1 o2 : Obj}
    (h1 : o1.IsDictOf (PySem.intKind PySem.Challenge.rw_ok0067_01.row.prog w) (without m1.Bk y.k)) (h2 : o2.IsDictOf (PySem.strKind PySem.Challenge.rw_ok0067_01.row.prog w) (without m1.Hb y.name))
    (N : News g L h' (pre ++ (coreE w.params c { m1 with bvO := o1, Bk := without m1.Bk y.k, hbO := o2, Hb := without m1.Hb y.name } ++ symL w.params m1.syms)))
    (ND : ((pre ++ (coreE w.params c m1 ++ symL w.params m1.syms)).map Prod.fst).Nodup) (I : MOk w c m1) (C : Cap n m1) (hy : y ∈ m1.syms)  :
    ∃ m2, News g L h' (pre ++ (coreE w.params c m2 ++ symL w.params m2.syms)) ∧ ((pre ++ (coreE w.params c m2 ++ symL w.params m2.syms)).map Prod.fst).Nodup ∧ MOk w c m2 ∧ Cap (n + 1) m2 := by
  have D := C.mono (Nat.le_succ n)
  exact ⟨{ m1 with bvO := o1, Bk := without m1.Bk y.k, hbO := o2, Hb := without m1.Hb y.name }, N, nd_same (A := coreE w.params c m1) (A' := coreE w.params c { m1 with bvO := o1, Bk := without m1.Bk y.k, hbO := o2, Hb := without m1.Hb y.name }) rfl ND, ⟨I.nm, I.fn, I.df, h1, I.lv, I.H, I.hd, h2, I.hw, I.hf, I.K, I.sy, I.rf, I.rd, I.rb.without I.sy hy, I.ro, I.gf, I.gd, good_without I.gb, I.go, I.kn, I.c0, I.c2, I.l0⟩, ⟨D.lm, D.sy, D.fk, D.dk, len_without C.bk, D.ok, D.hf, D.hd, len_without C.hb, D.hw, D.kk⟩⟩
theorem wayOd {w : World} {g h' : Heap} {L : Addr} {c : WA} {m1 : WM} {n : Nat} {pre : List (Addr × Obj)} {y : Sy} {o1 o2 : Obj}
    (h1 : o1.IsDictOf (PySem.intKind PySem.Challenge.rw_ok0067_01.row.prog w) (without m1.Ok y.k)) (h2 : o2.IsDictOf (PySem.strKind PySem.Challenge.rw_ok0067_01.row.prog w) (without m1.Hw y.name))
    (N : News g L h' (pre ++ (coreE w.params c { m1 with lvO := o1, Ok := without m1.Ok y.k, hwO := o2, Hw := without m1.Hw y.name } ++ symL w.params m1.syms)))
    (ND : ((pre ++ (coreE w.params c m1 ++ symL w.params m1.syms)).map Prod.fst).Nodup) (I : MOk w c m1) (C : Cap n m1) (hy : y ∈ m1.syms)  :
    ∃ m2, News g L h' (pre ++ (coreE w.params c m2 ++ symL w.params m2.syms)) ∧ ((pre ++ (coreE w.params c m2 ++ symL w.params m2.syms)).map Prod.fst).Nodup ∧ MOk w c m2 ∧ Cap (n + 1) m2 := by
  have D := C.mono (Nat.le_succ n)
  exact ⟨{ m1 with lvO := o1, Ok := without m1.Ok y.k, hwO := o2, Hw := without m1.Hw y.name }, N, nd_same (A := coreE w.params c m1) (A' := coreE w.params c { m1 with lvO := o1, Ok := without m1.Ok y.k, hwO := o2, Hw := without m1.Hw y.name }) rfl ND, ⟨I.nm, I.fn, I.df, I.bv, h1, I.H, I.hd, I.hb, h2, I.hf, I.K, I.sy, I.rf, I.rd, I.rb, I.ro.without I.sy hy, I.gf, I.gd, I.gb, good_without I.go, I.kn, I.c0, I.c2, I.l0⟩, ⟨D.lm, D.sy, D.fk, D.dk, D.bk, len_without C.ok, D.hf, D.hd, D.hb, len_without C.hw, D.kk⟩⟩
theorem wayC {w : World} {g h' : Heap} {L : Addr} {c : WA} {m1 : WM} {n : Nat} {pre : List (Addr × Obj)} {y : Sy} {o1 : Obj} {k : Int} {t : Tok}
    (h1 : o1.IsDictOf (PySem.strKind PySem.Challenge.rw_ok0067_01.row.prog w) (stored (hereK c m1) "current" (.int k t)))
    (N : News g L h' (pre ++ (coreE w.params c { m1 with HO := o1, cur := k, ct := t } ++ symL w.params m1.syms)))
    (ND : ((pre ++ (coreE w.params c m1 ++ symL w.params m1.syms)).map Prod.fst).Nodup) (I : MOk w c m1) (C : Cap n m1) (hy : y ∈ m1.syms) (k0 : 0 ≤ k) (k2 : k ≤ 2) :
    ∃ m2, News g L h' (pre ++ (coreE w.params c m2 ++ symL w.params m2.syms)) ∧ ((pre ++ (coreE w.params c m2 ++ symL w.params m2.syms)).map Prod.fst).Nodup ∧ MOk w c m2 ∧ Cap (n + 1) m2 := by
  have D := C.mono (Nat.le_succ n)
  exact ⟨{ m1 with HO := o1, cur := k, ct := t }, N, nd_same (A := coreE w.params c m1) (A' := coreE w.params c { m1 with HO := o1, cur := k, ct := t }) rfl ND, ⟨I.nm, I.fn, I.df, I.bv, I.lv, by rw [hereK_cur] at h1; exact h1, I.hd, I.hb, I.hw, I.hf, I.K, I.sy, I.rf, I.rd, I.rb, I.ro, I.gf, I.gd, I.gb, I.go, I.kn, k0, k2, I.l0⟩, ⟨D.lm, D.sy, D.fk, D.dk, D.bk, D.ok, D.hf, D.hd, D.hb, D.hw, D.kk⟩⟩
theorem wayM {w : World} {g h' : Heap} {L : Addr} {c : WA} {m1 : WM} {n : Nat} {pre : List (Addr × Obj)} {y : Sy} {o1 : Obj} {t u : Tok}
    (h1 : o1.IsDictOf (PySem.strKind PySem.Challenge.rw_ok0067_01.row.prog w) (stored (hereK c m1) "markers" (.int (m1.lm + 1) t)))
    (N : News g L h' (pre ++ (coreE w.params c { m1 with HO := o1, lm := m1.lm + 1, mt := t, lt := u } ++ symL w.params m1.syms)))
    (ND : ((pre ++ (coreE w.params c m1 ++ symL w.params m1.syms)).map Prod.fst).Nodup) (I : MOk w c m1) (C : Cap n m1) (hy : y ∈ m1.syms)  :
    ∃ m2, News g L h' (pre ++ (coreE w.params c m2 ++ symL w.params m2.syms)) ∧ ((pre ++ (coreE w.params c m2 ++ symL w.params m2.syms)).map Prod.fst).Nodup ∧ MOk w c m2 ∧ Cap (n + 1) m2 := by
  have D := C.mono (Nat.le_succ n)
  exact ⟨{ m1 with HO := o1, lm := m1.lm + 1, mt := t, lt := u }, N, nd_same (A := coreE w.params c m1) (A' := coreE w.params c { m1 with HO := o1, lm := m1.lm + 1, mt := t, lt := u }) rfl ND, ⟨I.nm, I.fn, I.df, I.bv, I.lv, by rw [hereK_mark (l := u)] at h1; exact h1, I.hd, I.hb, I.hw, I.hf, I.K, I.sy, I.rf, I.rd, I.rb, I.ro, I.gf, I.gd, I.gb, I.go, I.kn, I.c0, I.c2, by have := I.l0; show 0 ≤ m1.lm + 1; omega⟩, ⟨by have := C.lm; show m1.lm + 1 ≤ ((n + 1 : Nat) : Int); omega, D.sy, D.fk, D.dk, D.bk, D.ok, D.hf, D.hd, D.hb, D.hw, D.kk⟩⟩
theorem words14 : True := by
  k_with "call ref" => ((k_here; (with_reducible show wpAny _ _ (call (Value.ref 765) _) _ _ _); k_dflt (refine' dip_c ?q24F ?q24N ?q24X ?q24T ?q24r ?q24m1 ?q24m2 ?q24nd ?q24hI ?q24hz ?q24h0 ?q24h1 ?q24s0 ?q24s1 ?q24hm ?q24hm2 ?_; (case q24F => k_asm); (case q24N => k_asm); (case q24X => k_asm); (case q24T => k_asm); (case q24r => k_room); (case q24m1 => k_mem); (case q24m2 => k_mem); (case q24nd => (k_extra "sublist")); (case q24hI => k_asm); (case q24hz => k_asm); (case q24h0 => omega); (case q24h1 => omega); (case q24s0 => omega); (case q24s1 => omega); (case q24hm => decide); (case q24hm2 => decide); k_whole); (intro z9h' z9tk' z9r' z9tr' z9n1' z9sd' z9ta' z9ts' z9F' z9ho' z9B' z9r0' z9r1' z9s0' z9s1'); (have z9N' := upd_news (by k_asm) z9B' z9ho' (by k_updF)); (try dsimp only at z9N'); (try k_sweep)))
  k_with "call ref" => ((k_here; (with_reducible show wpAny _ _ (call (Value.ref 474) _) _ _ _); k_dflt (refine' fresh_marker_c ?q24F ?q24N ?q24X ?q24T ?q24r ?q24m1 ?q24m2 ?q24nd ?q24h0 ?q24h1 ?_; (case q24F => k_asm); (case q24N => k_asm); (case q24X => k_asm); (case q24T => k_asm); (case q24r => k_room); (case q24m1 => k_mem); (case q24m2 => k_mem); (case q24nd => (k_extra "sublist")); (case q24h0 => omega); (case q24h1 => omega); k_whole); (intro z9h' z9tk' z9t1' z9t2' z9F' z9ho' z9B'); (have z9N' := upd_news (by k_asm) z9B' z9ho' (by k_updF)); (try dsimp only at z9N'); (try k_sweep)))
  k_with "call ref" => ((k_here; (with_reducible show wpAny _ _ (call (Value.ref 411) _) _ _ _); k_dflt (refine' kill_c ?q24F ?q24N ?q24X ?q24T ?q24r ?q24m1 ?q24m2 ?q24m3 ?q24nd ?q24lo ?q24hd ?q24hz ?_; (case q24F => k_asm); (case q24N => k_asm); (case q24X => k_asm); (case q24T => k_asm); (case q24r => k_room); (case q24m1 => k_mem); (case q24m2 => k_mem); (case q24m3 => k_mem); (case q24nd => (k_extra "sublist")); (case q24lo => k_asm); (case q24hd => k_asm); (case q24hz => omega); k_whole); (intro z9h' z9tk' z9o' z9F' z9ho' z9hd' z9B'); (have z9N' := upd_news (by k_asm) z9B' z9ho' (by k_updF)); (try dsimp only at z9N'); (try k_sweep)))
  k_with "call ref" => ((k_here; (with_reducible show wpAny _ _ (call (Value.ref 439) _) _ _ _); k_dflt (refine' set_in_local2 ?q24F ?q24N ?q24X ?q24T ?q24r ?q24m1 ?q24m2 ?q24m3 ?q24nd ?q24l2 ?q24hd2 ?q24hk ?q24hz ?_; (case q24F => k_asm); (case q24N => k_asm); (case q24X => k_asm); (case q24T => k_asm); (case q24r => k_room); (case q24m1 => k_mem); (case q24m2 => k_mem); (case q24m3 => k_mem); (case q24nd => (k_extra "sublist")); (case q24l2 => k_asm); (case q24hd2 => k_asm); (case q24hk => (with_reducible assumption)); (case q24hz => omega); k_whole); (intro z9h' z9tk' z9o' z9F' z9ho' z9hd' z9B'); (have z9N' := upd_news (by k_asm) z9B' z9ho' (by k_updF)); (try dsimp only at z9N'); (try k_sweep)))
  k_with "call ref" => ((k_here; (with_reducible show wpAny _ _ (call (Value.ref 439) _) _ _ _); k_dflt (refine' set_in_default ?q24F ?q24N ?q24X ?q24T ?q24r ?q24m1 ?q24m2 ?q24m3 ?q24m7 ?q24m4 ?q24m5 ?q24m6 ?q24nd ?q24l2 ?q24l3 ?q24hd1 ?q24hd3 ?q24hd2 ?q24hk ?q24hka ?q24hz ?_; (case q24F => k_asm); (case q24N => k_asm); (case q24X => k_asm); (case q24T => k_asm); (case q24r => k_room); (case q24m1 => k_mem); (case q24m2 => k_mem); (case q24m3 => k_mem); (case q24m7 => k_mem); (case q24m4 => k_mem); (case q24m5 => k_mem); (case q24m6 => k_mem); (case q24nd => (k_extra "sublist")); (case q24l2 => k_asm); (case q24l3 => k_asm); (case q24hd1 => k_asm); (case q24hd3 => k_asm); (case q24hd2 => k_asm); (case q24hk => (with_reducible assumption)); (case q24hka => (first | with_reducible assumption | rfl)); (case q24hz => omega); k_whole); (intro z9h' z9tk' z9o' z9F' z9ho' z9hd' z9B'); (have z9N' := upd_news (by k_asm) z9B' z9ho' (by k_updF)); (try dsimp only at z9N'); (try k_sweep)))
  k_with "call ref" => ((k_here; (with_reducible show wpAny _ _ (call (Value.ref 404) _) _ _ _); k_dflt (refine' make_local_new ?q24F ?q24N ?q24X ?q24T ?q24r ?q24m1 ?q24m2 ?q24m3 ?q24m4 ?q24m5 ?q24m6 ?q24nd ?q24l1 ?q24l2 ?q24hd1 ?q24hd2 ?q24hk ?q24hz ?_; (case q24F => k_asm); (case q24N => k_asm); (case q24X => k_asm); (case q24T => k_asm); (case q24r => k_room); (case q24m1 => k_mem); (case q24m2 => k_mem); (case q24m3 => k_mem); (case q24m4 => k_mem); (case q24m5 => k_mem); (case q24m6 => k_mem); (case q24nd => (k_extra "sublist")); (case q24l1 => k_asm); (case q24l2 => k_asm); (case q24hd1 => k_asm); (case q24hd2 => k_asm); (case q24hk => (with_reducible assumption)); (case q24hz => omega); k_whole); (intro z9h' z9tk' z9o' z9F' z9ho' z9hd' z9B'); (have z9N' := upd_news (by k_asm) z9B' z9ho' (by k_updF)); (try dsimp only at z9N'); (try k_sweep)))
  k_with "call ref" => ((k_here; (with_reducible show wpAny _ _ (call (Value.ref 481) _) _ _ _); k_dflt (refine' put_functions_f ?q24F ?q24N ?q24X ?q24T ?q24r ?q24m1 ?q24m2 ?q24m3 ?q24m4 ?q24m5 ?q24m6 ?q24m7 ?q24m8 ?q24m9 ?q24m10 ?q24m11 ?q24m12 ?q24m13 ?q24nd ?q24n1 ?q24n2 ?q24n3 ?q24n4 ?q24n5 ?q24lo ?q24hd ?q24hk ?q24hd2 ?q24hz ?q24hA ?_; (case q24F => k_asm); (case q24N => k_asm); (case q24X => k_asm); (case q24T => k_asm); (case q24r => k_room); (case q24m1 => k_mem); (case q24m2 => k_mem); (case q24m3 => k_mem); (case q24m4 => k_mem); (case q24m5 => k_mem); (case q24m6 => k_mem); (case q24m7 => k_mem); (case q24m8 => k_mem); (case q24m11 => k_mem); (case q24m12 => k_mem); (case q24m13 => k_mem); (case q24lo => k_asm); (case q24hd => k_asm); (case q24hk => (with_reducible assumption)); (case q24m9 => k_mem); (case q24m10 => k_mem); (case q24nd => (k_extra "sublist")); (case q24n1 => k_asm); (case q24n2 => k_asm); (case q24n3 => (refine neN ?_; omega)); (case q24n4 => (refine neN ?_; omega)); (case q24n5 => (refine neN ?_; omega)); (case q24hd2 => k_asm); (case q24hz => omega); (case q24hA => (first | rfl | assumption)); k_whole); (intro z9h' z9tk' z9o' z9F' z9ho' z9hd' z9B'); (have z9N' := upd_news (by k_asm) z9B' z9ho' (by k_updF)); (try dsimp only at z9N'); (try k_sweep)))
  k_with "subscriptTail" => ((k_here; (with_reducible show wpAny _ _ (subscriptTail _ _ (Value.ref _) (Value.int _ _)) _ _ _); k_dflt (first
  | (refine menu3 (vs := [_, _, _]) (by k_asm) (by k_mem) (by omega) (by intro z9v z9hv; simp only [List.mem_cons, List.not_mem_nil, or_false] at z9hv; rcases z9hv with rfl | rfl | rfl <;> exact ⟨_, _, rfl, by decide, by decide⟩) rfl (by omega) ?_; intro z9nm' z9t' z9hn1' z9hn2')
  | refine menuC (by k_asm) (by k_mem) (by omega) (by omega) ?_
  | refine my_tail (by k_asm) (by k_mem) (by omega) (by omega) (by rfl) ?_)))
  k_with "unpackItems ref" => ((k_here; k_dflt (refine' unpackItemsN_ ?q43k1 ?q43k2 ?q43k3 ?q43k4 ?q43k5 ?_; (case q43k1 => k_asm); (case q43k2 => k_asm); (case q43k3 => exact News.isTup (by k_asm) (by k_mem)); (case q43k4 => first | exact rfl | assumption); (case q43k5 => first | exact rfl | assumption); k_whole); intro z9h' z9F' z9N'; (try k_sweep)))
  k_with "call ref" => ((k_here; (with_reducible show wpAny _ _ (call (Value.ref 106) _) _ _ _); k_dflt (refine' call_cls ?q24k1 ?q24k2 ?q24k3 ?q24k4 ?q24k5 ?q24k6 ?_; (case q24k1 => k_asm); (case q24k2 => k_asm); (case q24k3 => k_asm); (case q24k4 => k_is); (case q24k5 => k_is); (case q24k6 => k_is); k_whole; intro z9x' z9d' z9h' z9F' z9N' z9l1 z9l2; (have z9nd' := nd_two z9N' (by assumption) z9l1 z9l2); (have z9l1c := z9l1); (k_lt z9l1c); (k_lt2 z9l2); (try k_sweep); k_extra "my_inl")))
  k_with "setAttr ref" => ((k_here; k_dflt (refine' set_dict ?q44k1 ?q44k2 ?q44k3 ?q44k4 ?q44k5 ?q44k6 ?q44k7 ?q44k8 ?q44k9 ?q44k10 ?q44k11 ?q44k12 ?q44k13 ?_; (case q44k1 => k_asm); (case q44k2 => k_asm); (case q44k3 => k_asm); (case q44k4 => k_inst); (case q44k5 => exact rfl); (case q44k6 => k_is); (case q44k7 => k_is); (case q44k8 => k_is); (case q44k9 => k_is); (case q44k10 => k_get); (case q44k11 => k_put); (case q44k12 => k_extra "myupd"); (case q44k13 => exact Nat.le_of_ble_eq_true rfl); k_whole; intro z9h' z9F' z9N'; (try k_sweep))))
  trivial
section
variable {w : World} {A : Around} {E : Value → Shared → Prop} {s : Shared} {L : Addr} {h₀ : Heap} {m mg mb : Str → Option Value}
  {news : List (Addr × Obj)} {p : Program} {loose : List Str}
theorem done_c (c : WA) (m' : WM) {P xs : Addr} {k0 sd : Int} {ta ts : Tok} {n1 n2 : Nat} {us : List Value} {ns : List Int} {Q : Value → Shared → Prop} {n : Nat}
   (F : Fr h₀ L s.heap m) (N : News h₀ L s.heap (potL P xs k0 sd ta ts n1 n2 us ++ (coreE w.params c m' ++ symL w.params m'.syms))) (X : (hd.heap_1 w.params).In h₀) (T : TopRead p loose mg mb h₀) (hr : A.depth + 10 < recursionLimit) (hA : A.handled = none)
   (ND : (List.map Prod.fst (potL P xs k0 sd ta ts n1 n2 us ++ (coreE w.params c m' ++ symL w.params m'.syms))).Nodup) (O : WOk w c) (I : MOk w c m') (Cp : Cap n m') (hn : n ≤ 500)
   (hI : IntsAre us ns) (hz : us.length ≤ 1000) (h0 : 0 ≤ k0) (h1 : k0 ≤ 900) (s0 : 0 ≤ sd) (s1 : sd ≤ 70000)
   (h : ∀ h' tk' m2 n1' k1 sd' ta' ts', Fr h₀ L h' m → News h₀ L h' (potL P xs k1 sd' ta' ts' n1' n2 us ++ (coreE w.params c m2 ++ symL w.params m2.syms)) →
     (List.map Prod.fst (potL P xs k1 sd' ta' ts' n1' n2 us ++ (coreE w.params c m2 ++ symL w.params m2.syms))).Nodup → MOk w c m2 → Cap (n + 2) m2 → k0 ≤ k1 → k1 ≤ k0 + 3 → 0 ≤ sd' → sd' ≤ 70000 →
     Keep s.heap h' (potL P xs k0 sd ta ts n1 n2 us ++ (coreE w.params c m' ++ symL w.params m'.syms)) → NewK s.heap (potL P xs k0 sd ta ts n1 n2 us ++ (coreE w.params c m' ++ symL w.params m'.syms)) (potL P xs k1 sd' ta' ts' n1' n2 us ++ (coreE w.params c m2 ++ symL w.params m2.syms)) → Q (.bool true) { s with heap := h', toks := tk' }) :
   wpAny (model PySem.Challenge.rw_ok0067_01.row.prog w) A (call (.ref 786) [.ref P, .ref c.W, .ref c.bl, .ref c.H]) Q E s := by
  have N1 := N
  k_extra "my_enter"
  rename Fr _ _ _ _ => F2
  refine split_st F2 (fun fm0 fm' news' => ∃ (m1 : WM) (n1' : Nat) (k1 sd' : Int) (ta' ts' t1 t2 t3 : Tok) (y : Sy) (r1 r3 : Int), news' = potL P xs k1 sd' ta' ts' n1' n2 us ++ (coreE w.params c m1 ++ symL w.params m1.syms) ∧
    (List.map Prod.fst (potL P xs k1 sd' ta' ts' n1' n2 us ++ (coreE w.params c m1 ++ symL w.params m1.syms))).Nodup ∧ MOk w c m1 ∧ Cap (n + 1) m1 ∧ k0 ≤ k1 ∧ k1 ≤ k0 + 3 ∧ 0 ≤ sd' ∧ sd' ≤ 70000 ∧ y ∈ m1.syms ∧ 0 ≤ r1 ∧ r1 < 6 ∧ 0 ≤ r3 ∧ r3 < 50 ∧
    fm' = fmD (if m1.cur = 2 then c.how else c.hba) y.a r1 r3 t1 t2 t3 y.name fm0) ?pre ?post
  case post =>
    rintro h9 tk9 fm9 news9 F9 N9 ⟨m1, n9, k9, sd9, ta9, ts9, t1, t2, t3, ⟨ya, yda, yt1, yt2, ytn, ytm, yk, yname⟩, r1, r3, rfl, ND1, I1, C1, b1, b2, b3, b4, hy, b5, b6, b7, b8, rfl⟩
    have ND3 := ND1
    simp only [potL, coreE, coreV, List.cons_append, List.nil_append] at N9 ND3
    delta fmD at F9
    dsimp only at F9
    have i1 := I1.nm; have i2 := I1.fn; have i3 := I1.df; have i4 := I1.bv; have i5 := I1.lv; have i6 := I1.H; have i7 := I1.hd; have i8 := I1.hb; have i9 := I1.hw; have i10 := I1.hf
    have s1' := O.s1; have s2 := O.s2; have s3 := O.s3; have s4 := O.s4; have s5 := O.s5; have s6 := O.s6; have s7 := O.s7; have s8 := O.s8; have s9 := O.s9; have s10 := O.s10; have s11 := O.s11
    have iau := O.au
    have c0 := I1.c0; have c2 := I1.c2; have l0 := I1.l0
    have q1 := C1.sy; have q2 := C1.lm; have q3 := C1.fk; have q4 := C1.dk; have q5 := C1.bk; have q6 := C1.ok; have q7 := C1.hf; have q8 := C1.hd; have q9 := C1.hb; have q10 := C1.hw
    have ym1 : (ya, instObj 58 yda) ∈ symL w.params m1.syms := symL_mem1 hy
    have ym2 : (yda, symO w.params yt1 yt2 yk ytn yname ytm) ∈ symL w.params m1.syms := symL_mem2 hy
    clear N1
    have qh : (hereK c m1).length ≤ 6 := Nat.le_refl 6
    have f3 := Int.fmod_nonneg_of_pos r3 (show (0 : Int) < 3 by decide)
    have f4 := Int.fmod_lt_of_pos r3 (show (0 : Int) < 3 by decide)
    rcases (show r1 = 0 ∨ r1 = 1 ∨ r1 = 2 ∨ r1 = 3 ∨ r1 = 4 ∨ r1 = 5 by omega) with rfl | rfl | rfl | rfl | rfl | rfl
    · show wpAny _ _ _ _ _ _
      k_steps
      refine menuC (c := c) (by k_asm) (by k_mem) (by omega) (by omega) ?_
      k_steps
      rename Obj.IsDictOf _ _ (stored (hereK c m1) _ _) => hA
      rename News _ _ _ ((_, _) :: (_, _) :: _) => N11
      obtain ⟨m2, N12, ND12, I2, C2⟩ := wayC (pre := potL P xs k9 sd9 ta9 ts9 n9 n2 us) (m1 := m1) (c := c) (y := ⟨ya, yda, yt1, yt2, ytn, ytm, yk, yname⟩) hA (news_tl N11) ND1 I1 C1 hy (by omega) (by omega)
      refine back_all (l := potL P xs k9 sd9 ta9 ts9 n9 n2 us ++ (coreE w.params c m2 ++ symL w.params m2.syms)) (by assumption) N12 (by assumption) (fun p hp => hp) ?_
      intro F N K W
      exact h _ _ m2 n9 k9 sd9 ta9 ts9 F N ND12 I2 C2 b1 b2 b3 b4 K W
    · by_cases hcur : m1.cur = 2
      · simp only [if_pos hcur] at F9
        have hg : GoodV (.int r3 t3) := .inr ⟨_, _, rfl⟩
        cases hl1 : (valueAt m1.Ok yk).isSome
        · have hl2 : (valueAt m1.Hw yname).isSome = false := by rw [← I1.ro.1 _ hy]; exact hl1
          show wpAny _ _ _ _ _ _
          k_steps
          rename Obj.IsDictOf _ _ (stored m1.Dk _ _) => hA
          rename Obj.IsDictOf _ _ (stored m1.Hd _ _) => hB
          rename News _ _ _ ((_, _) :: (_, _) :: _) => N11
          obtain ⟨m2, N12, ND12, I2, C2⟩ := wayD (pre := potL P xs k9 sd9 ta9 ts9 n9 n2 us) (m1 := m1) (c := c) (y := ⟨ya, yda, yt1, yt2, ytn, ytm, yk, yname⟩) hA hB N11 ND1 I1 C1 hy hg
          refine back_all (l := potL P xs k9 sd9 ta9 ts9 n9 n2 us ++ (coreE w.params c m2 ++ symL w.params m2.syms)) (by assumption) N12 (by assumption) (fun p hp => hp) ?_
          intro F N K W
          exact h _ _ m2 n9 k9 sd9 ta9 ts9 F N ND12 I2 C2 b1 b2 b3 b4 K W
        · have hl2 : (valueAt m1.Hw yname).isSome = true := by rw [← I1.ro.1 _ hy]; exact hl1
          show wpAny _ _ _ _ _ _
          k_steps
          rename Obj.IsDictOf _ _ (stored m1.Ok _ _) => hA
          rename Obj.IsDictOf _ _ (stored m1.Hw _ _) => hB
          rename News _ _ _ ((_, _) :: (_, _) :: _) => N11
          obtain ⟨m2, N12, ND12, I2, C2⟩ := wayO (pre := potL P xs k9 sd9 ta9 ts9 n9 n2 us) (m1 := m1) (c := c) (y := ⟨ya, yda, yt1, yt2, ytn, ytm, yk, yname⟩) hA hB N11 ND1 I1 C1 hy hg
          refine back_all (l := potL P xs k9 sd9 ta9 ts9 n9 n2 us ++ (coreE w.params c m2 ++ symL w.params m2.syms)) (by assumption) N12 (by assumption) (fun p hp => hp) ?_
          intro F N K W
          exact h _ _ m2 n9 k9 sd9 ta9 ts9 F N ND12 I2 C2 b1 b2 b3 b4 K W
      · simp only [if_neg hcur] at F9
        have hg : GoodV (.int r3 t3) := .inr ⟨_, _, rfl⟩
        cases hl1 : (valueAt m1.Bk yk).isSome
        · have hl2 : (valueAt m1.Hb yname).isSome = false := by rw [← I1.rb.1 _ hy]; exact hl1
          show wpAny _ _ _ _ _ _
          k_steps
          rename Obj.IsDictOf _ _ (stored m1.Dk _ _) => hA
          rename Obj.IsDictOf _ _ (stored m1.Hd _ _) => hB
          rename News _ _ _ ((_, _) :: (_, _) :: _) => N11
          obtain ⟨m2, N12, ND12, I2, C2⟩ := wayD (pre := potL P xs k9 sd9 ta9 ts9 n9 n2 us) (m1 := m1) (c := c) (y := ⟨ya, yda, yt1, yt2, ytn, ytm, yk, yname⟩) hA hB N11 ND1 I1 C1 hy hg
          refine back_all (l := potL P xs k9 sd9 ta9 ts9 n9 n2 us ++ (coreE w.params c m2 ++ symL w.params m2.syms)) (by assumption) N12 (by assumption) (fun p hp => hp) ?_
          intro F N K W
          exact h _ _ m2 n9 k9 sd9 ta9 ts9 F N ND12 I2 C2 b1 b2 b3 b4 K W
        · have hl2 : (valueAt m1.Hb yname).isSome = true := by rw [← I1.rb.1 _ hy]; exact hl1
          show wpAny _ _ _ _ _ _
          k_steps
          rename Obj.IsDictOf _ _ (stored m1.Bk _ _) => hA
          rename Obj.IsDictOf _ _ (stored m1.Hb _ _) => hB
          rename News _ _ _ ((_, _) :: (_, _) :: _) => N11
          obtain ⟨m2, N12, ND12, I2, C2⟩ := wayB (pre := potL P xs k9 sd9 ta9 ts9 n9 n2 us) (m1 := m1) (c := c) (y := ⟨ya, yda, yt1, yt2, ytn, ytm, yk, yname⟩) hA hB N11 ND1 I1 C1 hy hg
          refine back_all (l := potL P xs k9 sd9 ta9 ts9 n9 n2 us ++ (coreE w.params c m2 ++ symL w.params m2.syms)) (by assumption) N12 (by assumption) (fun p hp => hp) ?_
          intro F N K W
          exact h _ _ m2 n9 k9 sd9 ta9 ts9 F N ND12 I2 C2 b1 b2 b3 b4 K W
    · by_cases hcur : m1.cur = 2
      · simp only [if_pos hcur] at F9
        have e9 : (valueAt m1.Dk yk).getD .none = (valueAt m1.Hd yname).getD .none := I1.rd.getD hy _
        have hg : GoodV ((valueAt m1.Hd yname).getD .none) := by
          cases q : valueAt m1.Hd yname with
          | none => exact .inl rfl
          | some u => exact I1.gd _ _ q
        cases hl1 : (valueAt m1.Ok yk).isSome
        · have hl2 : (valueAt m1.Hw yname).isSome = false := by rw [← I1.ro.1 _ hy]; exact hl1
          show wpAny _ _ _ _ _ _
          k_steps
          rename Obj.IsDictOf _ _ (stored m1.Ok _ _) => hA
          rename Obj.IsDictOf _ _ (stored m1.Hw _ _) => hB
          rw [e9] at hA
          rename News _ _ _ ((_, _) :: (_, _) :: _) => N11
          obtain ⟨m2, N12, ND12, I2, C2⟩ := wayO (pre := potL P xs k9 sd9 ta9 ts9 n9 n2 us) (m1 := m1) (c := c) (y := ⟨ya, yda, yt1, yt2, ytn, ytm, yk, yname⟩) hA hB N11 ND1 I1 C1 hy hg
          refine back_all (l := potL P xs k9 sd9 ta9 ts9 n9 n2 us ++ (coreE w.params c m2 ++ symL w.params m2.syms)) (by assumption) N12 (by assumption) (fun p hp => hp) ?_
          intro F N K W
          exact h _ _ m2 n9 k9 sd9 ta9 ts9 F N ND12 I2 C2 b1 b2 b3 b4 K W
        · have hl2 : (valueAt m1.Hw yname).isSome = true := by rw [← I1.ro.1 _ hy]; exact hl1
          show wpAny _ _ _ _ _ _
          k_steps
          refine back_all (l := potL P xs k9 sd9 ta9 ts9 n9 n2 us ++ (coreE w.params c m1 ++ symL w.params m1.syms)) (by assumption) (by assumption) (by assumption) (fun p hp => hp) ?_
          intro F N K W
          exact h _ _ m1 n9 k9 sd9 ta9 ts9 F N ND1 I1 (C1.mono (Nat.le_succ _)) b1 b2 b3 b4 K W
      · simp only [if_neg hcur] at F9
        have e9 : (valueAt m1.Dk yk).getD .none = (valueAt m1.Hd yname).getD .none := I1.rd.getD hy _
        have hg : GoodV ((valueAt m1.Hd yname).getD .none) := by
          cases q : valueAt m1.Hd yname with
          | none => exact .inl rfl
          | some u => exact I1.gd _ _ q
        cases hl1 : (valueAt m1.Bk yk).isSome
        · have hl2 : (valueAt m1.Hb yname).isSome = false := by rw [← I1.rb.1 _ hy]; exact hl1
          show wpAny _ _ _ _ _ _
          k_steps
          rename Obj.IsDictOf _ _ (stored m1.Bk _ _) => hA
          rename Obj.IsDictOf _ _ (stored m1.Hb _ _) => hB
          rw [e9] at hA
          rename News _ _ _ ((_, _) :: (_, _) :: _) => N11
          obtain ⟨m2, N12, ND12, I2, C2⟩ := wayB (pre := potL P xs k9 sd9 ta9 ts9 n9 n2 us) (m1 := m1) (c := c) (y := ⟨ya, yda, yt1, yt2, ytn, ytm, yk, yname⟩) hA hB N11 ND1 I1 C1 hy hg
          refine back_all (l := potL P xs k9 sd9 ta9 ts9 n9 n2 us ++ (coreE w.params c m2 ++ symL w.params m2.syms)) (by assumption) N12 (by assumption) (fun p hp => hp) ?_
          intro F N K W
          exact h _ _ m2 n9 k9 sd9 ta9 ts9 F N ND12 I2 C2 b1 b2 b3 b4 K W
        · have hl2 : (valueAt m1.Hb yname).isSome = true := by rw [← I1.rb.1 _ hy]; exact hl1
          show wpAny _ _ _ _ _ _
          k_steps
          refine back_all (l := potL P xs k9 sd9 ta9 ts9 n9 n2 us ++ (coreE w.params c m1 ++ symL w.params m1.syms)) (by assumption) (by assumption) (by assumption) (fun p hp => hp) ?_
          intro F N K W
          exact h _ _ m1 n9 k9 sd9 ta9 ts9 F N ND1 I1 (C1.mono (Nat.le_succ _)) b1 b2 b3 b4 K W
    · by_cases hcur : m1.cur = 2
      · simp only [if_pos hcur] at F9
        show wpAny _ _ _ _ _ _
        k_steps
        rename Obj.IsDictOf _ _ (without m1.Ok _) => hA
        rename Obj.IsDictOf _ _ (without m1.Hw _) => hB
        rename News _ _ _ ((_, _) :: (_, _) :: _) => N11
        obtain ⟨m2, N12, ND12, I2, C2⟩ := wayOd (pre := potL P xs k9 sd9 ta9 ts9 n9 n2 us) (m1 := m1) (c := c) (y := ⟨ya, yda, yt1, yt2, ytn, ytm, yk, yname⟩) hA hB N11 ND1 I1 C1 hy
        refine back_all (l := potL P xs k9 sd9 ta9 ts9 n9 n2 us ++ (coreE w.params c m2 ++ symL w.params m2.syms)) (by assumption) N12 (by assumption) (fun p hp => hp) ?_
        intro F N K W
        exact h _ _ m2 n9 k9 sd9 ta9 ts9 F N ND12 I2 C2 b1 b2 b3 b4 K W
      · simp only [if_neg hcur] at F9
        show wpAny _ _ _ _ _ _
        k_steps
        rename Obj.IsDictOf _ _ (without m1.Bk _) => hA
        rename Obj.IsDictOf _ _ (without m1.Hb _) => hB
        rename News _ _ _ ((_, _) :: (_, _) :: _) => N11
        obtain ⟨m2, N12, ND12, I2, C2⟩ := wayBd (pre := potL P xs k9 sd9 ta9 ts9 n9 n2 us) (m1 := m1) (c := c) (y := ⟨ya, yda, yt1, yt2, ytn, ytm, yk, yname⟩) hA hB N11 ND1 I1 C1 hy
        refine back_all (l := potL P xs k9 sd9 ta9 ts9 n9 n2 us ++ (coreE w.params c m2 ++ symL w.params m2.syms)) (by assumption) N12 (by assumption) (fun p hp => hp) ?_
        intro F N K W
        exact h _ _ m2 n9 k9 sd9 ta9 ts9 F N ND12 I2 C2 b1 b2 b3 b4 K W
    · show wpAny _ _ _ _ _ _
      have f1 : valueAt (namesK m1.syms) yname = some (.ref ya) := namesK_at I1.sy hy
      have o1 : c.fn ≠ ya := off_sym (p := (ya, instObj 58 yda)) (A := potL P xs k9 sd9 ta9 ts9 n9 n2 us ++ coreE w.params c m1) (by rw [List.append_assoc]; exact ND1) (by k_extra "mem") ym1
      have o2 : c.fn ≠ yda := off_sym (p := (yda, symO w.params yt1 yt2 yk ytn yname ytm)) (A := potL P xs k9 sd9 ta9 ts9 n9 n2 us ++ coreE w.params c m1) (by rw [List.append_assoc]; exact ND1) (by k_extra "mem") ym2
      k_steps
      rename Obj.IsDictOf _ _ (stored m1.Fk _ _) => hA
      rename Obj.IsDictOf _ _ (stored m1.Hf _ _) => hB
      rename News _ _ _ ((_, _) :: (_, _) :: _) => N11
      obtain ⟨m2, N12, ND12, I2, C2⟩ := wayF (pre := potL P xs k9 sd9 ta9 ts9 n9 n2 us) (m1 := m1) (c := c) (y := ⟨ya, yda, yt1, yt2, ytn, ytm, yk, yname⟩) hA hB (news_tl (news_tl (news_tl N11))) ND1 I1 C1 hy ⟨_, rfl⟩
      refine back_all (l := potL P xs k9 sd9 ta9 ts9 n9 n2 us ++ (coreE w.params c m2 ++ symL w.params m2.syms)) (by assumption) N12 (by assumption) (fun p hp => hp) ?_
      intro F N K W
      exact h _ _ m2 n9 k9 sd9 ta9 ts9 F N ND12 I2 C2 b1 b2 b3 b4 K W
    · show wpAny _ _ _ _ _ _
      k_steps
      rw [show (m1.lm + 1 == m1.lm + 1) = true from beq_self_eq_true _]
      rename Obj.IsDictOf _ _ (stored (hereK c m1) _ _) => hA
      rename News _ _ _ ((_, _) :: (_, _) :: _) => N11
      obtain ⟨m2, N12, ND12, I2, C2⟩ := wayM (pre := potL P xs k9 sd9 ta9 ts9 n9 n2 us) (m1 := m1) (c := c) (y := ⟨ya, yda, yt1, yt2, ytn, ytm, yk, yname⟩) hA N11 ND1 I1 C1 hy
      refine back_all (l := potL P xs k9 sd9 ta9 ts9 n9 n2 us ++ (coreE w.params c m2 ++ symL w.params m2.syms)) (by assumption) N12 (by assumption) (fun p hp => hp) ?_
      intro F N K W
      exact h _ _ m2 n9 k9 sd9 ta9 ts9 F N ND12 I2 C2 b1 b2 b3 b4 K W
  case pre =>
    rename News _ _ _ (potL _ _ _ _ _ _ _ _ _ ++ _) => N2
    have ND3 := ND
    simp only [potL, coreE, coreV, List.cons_append, List.nil_append] at N2 ND3
    have i1 := I.nm; have i6 := I.H
    have s1' := O.s1; have s7 := O.s7
    have k1 := Cp.sy
    show wpAny _ _ _ _ _ _
    k_fold
    k_steps
    rename PySem.Str => nm
    rename nm ≠ _ => hn2
    rename nm ≠ _ => hn1'
    rcases find_sy m'.syms nm with ⟨⟨ya, yda, yt1, yt2, ytn, ytm, yk, yname⟩, hy, hyn⟩ | hnew
    · have hyn' : yname = nm := hyn
      subst hyn'
      clear hyn
      have f1 : valueAt (namesK m'.syms) yname = some (.ref ya) := namesK_at I.sy hy
      by_cases hcur : m'.cur = 2
      · k_steps
        rename News _ _ _ ((_, _) :: _) => N9
        rename Fr _ _ _ _ => F9
        obtain ⟨k9, sd9, ta9, ts9, n9, e1, e2, N12⟩ := as_pot (P := P) (xs := xs) (n2 := n2) (us := us) (R := coreE w.params c m' ++ symL w.params m'.syms) (news_tl (news_tl (news_tl N9)))
        obtain ⟨r1', r3', t1', t2', t3', e3, e4, F12⟩ := as_map (a := c.how) (b := ya) (nm := yname) F9
        refine Mid.intro F12 N12 ⟨m', n9, k9, sd9, ta9, ts9, t1', t2', t3', ⟨ya, yda, yt1, yt2, ytn, ytm, yk, yname⟩, r1', r3', rfl, ND3, I, Cp.mono (by omega), by omega, by omega, by omega, by omega, hy, by omega, by omega, by omega, by omega, by rw [if_pos hcur]⟩
      · k_steps
        rename News _ _ _ ((_, _) :: _) => N9
        rename Fr _ _ _ _ => F9
        obtain ⟨k9, sd9, ta9, ts9, n9, e1, e2, N12⟩ := as_pot (P := P) (xs := xs) (n2 := n2) (us := us) (R := coreE w.params c m' ++ symL w.params m'.syms) (news_tl (news_tl (news_tl N9)))
        obtain ⟨r1', r3', t1', t2', t3', e3, e4, F12⟩ := as_map (a := c.hba) (b := ya) (nm := yname) F9
        refine Mid.intro F12 N12 ⟨m', n9, k9, sd9, ta9, ts9, t1', t2', t3', ⟨ya, yda, yt1, yt2, ytn, ytm, yk, yname⟩, r1', r3', rfl, ND3, I, Cp.mono (by omega), by omega, by omega, by omega, by omega, hy, by omega, by omega, by omega, by omega, by rw [if_neg hcur]⟩
    · have f1 : valueAt (namesK m'.syms) nm = none := namesK_none hnew (by assumption) (by assumption)
      have r1 : (rowsV m'.syms).length ≤ 900 := by rw [rowsV_length]; omega
      have r2 : (namesK m'.syms).length ≤ 900 := by rw [namesK_length]; omega
      by_cases hcur : m'.cur = 2
      · rename News _ _ _ ((_, _) :: (_, _) :: _) => N8
        have ND8 := nd_as (news_tl (news_tl N8)) rfl ND3
        (refine' symbol_new ?F ?N ?X ?T ?r ?m1 ?m2 ?m3 ?m4 ?m5 ?m6 ?nd ?lo ?hd ?hk ?hz ?hz2 ?_; (case F => k_asm); (case N => k_asm); (case X => k_asm); (case T => k_asm); (case r => k_room); (case m1 => k_mem); (case m2 => k_mem); (case m3 => k_mem); (case m4 => k_mem); (case m5 => k_mem); (case m6 => k_mem); (case lo => k_asm); (case hd => k_asm); (case hk => with_reducible assumption); (case hz => omega); (case hz2 => omega); (case nd => k_extra "sublist"))
        intro h9 tk9 o9 y F' ho' ho2' hd9 B' W' hyk hyn
        have cN := chg2_sy (by k_asm) ND8 N8 (fun p hp => .tail _ (.tail _ hp)) B' ho' ho2' (by k_extra "chg") (by k_extra "chg") W'
        obtain ⟨N10, ND10⟩ := cN
        subst hyn
        k_steps
        rename News _ _ _ ((_, _) :: _) => N9
        rename Fr _ _ _ _ => F12
        obtain ⟨k9, sd9, ta9, ts9, n9, e1, e2, N12⟩ := as_pot2 (P := P) (xs := xs) (n2 := n2) (us := us) (y := y) (R := coreV w.params c { m' with nmO := o9, rn := m'.rn + 1, syms := m'.syms ++ [y] } (rowsV m'.syms ++ [Value.ref y.a]) ++ symL w.params m'.syms) (news_tl N9)
        obtain ⟨m2, N13, ND13, I2, C2, hy, hcu⟩ := pack4 (n' := n + 1) hd9 N12 ND10 I Cp (by omega) hyk hnew (by assumption) (by assumption)
        obtain ⟨r1', r3', t1', t2', t3', e3, e4, F13⟩ := as_map (a := c.how) (b := y.a) (nm := y.name) F12
        exact Mid.intro F13 N13 ⟨m2, n9, k9, sd9, ta9, ts9, t1', t2', t3', y, r1', r3', rfl, ND13, I2, C2, by omega, by omega, by omega, by omega, hy, by omega, by omega, by omega, by omega, by rw [hcu, if_pos hcur]⟩
      · rename News _ _ _ ((_, _) :: (_, _) :: _) => N8
        have ND8 := nd_as (news_tl (news_tl N8)) rfl ND3
        (refine' symbol_new ?F ?N ?X ?T ?r ?m1 ?m2 ?m3 ?m4 ?m5 ?m6 ?nd ?lo ?hd ?hk ?hz ?hz2 ?_; (case F => k_asm); (case N => k_asm); (case X => k_asm); (case T => k_asm); (case r => k_room); (case m1 => k_mem); (case m2 => k_mem); (case m3 => k_mem); (case m4 => k_mem); (case m5 => k_mem); (case m6 => k_mem); (case lo => k_asm); (case hd => k_asm); (case hk => with_reducible assumption); (case hz => omega); (case hz2 => omega); (case nd => k_extra "sublist"))
        intro h9 tk9 o9 y F' ho' ho2' hd9 B' W' hyk hyn
        have cN := chg2_sy (by k_asm) ND8 N8 (fun p hp => .tail _ (.tail _ hp)) B' ho' ho2' (by k_extra "chg") (by k_extra "chg") W'
        obtain ⟨N10, ND10⟩ := cN
        subst hyn
        k_steps
        rename News _ _ _ ((_, _) :: _) => N9
        rename Fr _ _ _ _ => F12
        obtain ⟨k9, sd9, ta9, ts9, n9, e1, e2, N12⟩ := as_pot2 (P := P) (xs := xs) (n2 := n2) (us := us) (y := y) (R := coreV w.params c { m' with nmO := o9, rn := m'.rn + 1, syms := m'.syms ++ [y] } (rowsV m'.syms ++ [Value.ref y.a]) ++ symL w.params m'.syms) (news_tl N9)
        obtain ⟨m2, N13, ND13, I2, C2, hy, hcu⟩ := pack4 (n' := n + 1) hd9 N12 ND10 I Cp (by omega) hyk hnew (by assumption) (by assumption)
        obtain ⟨r1', r3', t1', t2', t3', e3, e4, F13⟩ := as_map (a := c.hba) (b := y.a) (nm := y.name) F12
        exact Mid.intro F13 N13 ⟨m2, n9, k9, sd9, ta9, ts9, t1', t2', t3', y, r1', r3', rfl, ND13, I2, C2, by omega, by omega, by omega, by omega, hy, by omega, by omega, by omega, by omega, by rw [hcu, if_neg hcur]⟩
end
end
theorem words15 : True := by
  k_with_none
  k_with "my_enter" => ((refine wpAny_call ?_; refine' code_foot ?q0k1 ?q0k2 ?q0k3 ?q0k4 ?q0k5 ?q0k6 ?q0k7 ?q0k8 _ ?q0kN ?_ ?q0c2 ?q0c3 ?q0c4 ?q0c5; (case q0k1 => k_asm); (case q0k2 => k_asm); (case q0k3 => k_asm); (case q0k4 => k_is); (case q0k5 => k_is); (case q0k6 => omega); (case q0k7 => first | exact BindsTo.of_eq rfl | exact binds_K (by k_in) rfl (by k_is) rfl rfl rfl); (case q0k8 => exact locs rfl); (case q0kN => assumption); (case q0c2 => exact rfl); (case q0c3 => exact rfl); (case q0c4 => exact rfl); (case q0c5 => decide); (intro z9g' z9L' z9h' z9F' z9N' z9X' z9T' z9l1 z9hgk); (try k_lt z9l1); dsimp only; (show wpAny _ _ _ _ _ _); k_fold))
  k_with "k_room" => (((try simp only [depth_under_make, depth_under_kw, depth_in1, depth_deeper]); omega))
  k_with "call builtin:dict.get" => ((k_here; k_dflt (first
  | refine kdg_get1 (knd := PySem.strKind _ _) (by k_asm) (by k_mem) (by k_asm) (by k_asm) (strKind_is _ _ _ _) _ (by first | k_asm | rfl) ?_
  | refine kdg_get2 (knd := PySem.strKind _ _) (by k_asm) (by k_mem) (by k_asm) (by k_asm) (strKind_is _ _ _ _) _ (by first | k_asm | rfl) ?_
  | refine kdg_get1 (knd := PySem.intKind _ _) (by k_asm) (by k_mem) (by k_asm) (by k_asm) (intKind_is _ _ _ _) _ (by first | k_asm | rfl) ?_
  | refine kdg_get2 (knd := PySem.intKind _ _) (by k_asm) (by k_mem) (by k_asm) (by k_asm) (intKind_is _ _ _ _) _ (by first | k_asm | rfl) ?_); (try dsimp only [Option.getD_some, Option.getD_none])))
  k_with "getMethod ref" => ((k_here; (with_reducible show wpAny _ _ (getMethod (Value.ref _) (Str.ofString "get") _) _ _ _); k_dflt (first
  | refine kdg_method (knd := PySem.strKind _ _) (by k_asm) (by k_mem) (by k_asm) ?_
  | refine kdg_method (knd := PySem.intKind _ _) (by k_asm) (by k_mem) (by k_asm) ?_)))
  k_with "compareOp In int ref" => ((k_here; k_dflt (refine kda_in (knd := PySem.intKind _ _) (by k_asm) (by k_mem) (by k_asm) (by k_asm) (intKind_is _ _ _ _) _ (by rfl) ?_)))
  k_with "compareOp In str ref" => ((k_here; k_dflt (refine kda_in (knd := PySem.strKind _ _) (by k_asm) (by k_mem) (by k_asm) (by k_asm) (strKind_is _ _ _ _) _ (by rfl) ?_)))
  k_with "compareOp NotIn int ref" => ((k_here; k_dflt (refine kdg_notin (knd := PySem.intKind _ _) (by k_asm) (by k_mem) (by k_asm) (by k_asm) (intKind_is _ _ _ _) _ (by rfl) ?_)))
  k_with "compareOp NotIn str ref" => ((k_here; k_dflt (refine kdg_notin (knd := PySem.strKind _ _) (by k_asm) (by k_mem) (by k_asm) (by k_asm) (strKind_is _ _ _ _) _ (by rfl) ?_)))
  k_with "nd1" => (first | (refine NdGoal.left ?_; k_mem) | (refine NdGoal.right ?_; k_mem) | (refine NdGoal.tail ?_; k_extra "nd1"))
  k_with "nd" => (first | assumption | exact Ne.symm (by assumption) | (refine' nd_start ?q10ND ?_; (case q10ND => assumption); k_extra "nd1"))
  k_with "k_ne" => ((refine neN ?_; (try dsimp only); k_extra "nd"))
  k_with "setItem ref int" => ((k_here; k_dflt (refine' kda_set (knd := PySem.intKind _ _) ?q12F ?q12N ?q12U ?q12d (intKind_is _ _ _ _) ?q12z ?_; (case q12F => k_asm); (case q12N => k_asm); (case q12U => k_updF); (case q12d => k_asm); (case q12z => rw [sizeLine_eq]; omega)); intro z9h' z9o' z9F' z9N' z9hd'; (try dsimp only at z9N'); (try k_sweep)))
  k_with "setItem ref str" => ((k_here; k_dflt (refine' kda_set (knd := PySem.strKind _ _) ?q13F ?q13N ?q13U ?q13d (strKind_is _ _ _ _) ?q13z ?_; (case q13F => k_asm); (case q13N => k_asm); (case q13U => k_updF); (case q13d => k_asm); (case q13z => rw [sizeLine_eq]; omega)); intro z9h' z9o' z9F' z9N' z9hd'; (try dsimp only at z9N'); (try k_sweep)))
  k_with "mem" => (first | exact List.Mem.head _ | (refine List.Mem.tail _ ?_; k_extra "mem"))
  k_with "sub_but" => ((refine' List.forall_mem_cons.mpr ⟨?q15a, ?q15b⟩; (case q15a => (intro z9hne; first | exact absurd rfl z9hne | k_extra "mem")); (case q15b => first | exact List.forall_mem_nil _ | k_extra "sub_but")))
  k_with "chg" => (first | exact Chg.head | (refine' Chg.tail ?q16c; (case q16c => k_extra "chg")))
  k_with "sub" => (first | exact (fun _ z9hp => z9hp) | (intro z9p z9hp; refine List.mem_cons_of_mem _ ?_; revert z9p; k_extra "sub"))
  k_with "call builtin:dict.pop" => ((k_here; k_dflt (first
  | (refine' my_pop1 (knd := PySem.intKind _ _) ?q18F ?q18N ?q18U ?q18d (intKind_is _ _ _ _) ?q18p ?q18l ?q18z ?_; (case q18F => k_asm); (case q18N => k_asm); (case q18U => k_updF); (case q18d => k_asm); (case q18p => rfl); (case q18l => k_asm); (case q18z => rw [sizeLine_eq]; omega); intro z9h' z9o' z9v' z9F' z9N' z9hd')
  | (refine' my_pop2 (knd := PySem.strKind _ _) ?q18F ?q18N ?q18U ?q18d ?q18lo (strKind_is _ _ _ _) ?q18p ?q18z ?_; (case q18F => k_asm); (case q18N => k_asm); (case q18U => k_updF); (case q18d => k_asm); (case q18lo => k_asm); (case q18p => rfl); (case q18z => rw [sizeLine_eq]; omega); intro z9h' z9o' z9v' z9tk' z9F' z9N' z9hd')); (try dsimp only at z9N'); (try k_sweep)))
  k_with "sub_but2" => ((refine' List.forall_mem_cons.mpr ⟨?q19a, ?q19b⟩; (case q19a => (intro z9hne z9hne2; first | exact absurd rfl z9hne | exact absurd rfl z9hne2 | k_extra "mem")); (case q19b => first | exact List.forall_mem_nil _ | k_extra "sub_but2")))
  trivial
section
theorem nd_twoG {g h : Heap} {L : Addr} {l : List (Addr × Obj)} {x d : Addr} {ox od : Obj} (_N : News g L h ((x, ox) :: (d, od) :: l)) (ND : (l.map Prod.fst).Nodup) (l1 : ∀ p ∈ l, p.1 < d) (l2 : d < x) : (((x, ox) :: (d, od) :: l).map Prod.fst).Nodup := by
  have a1 : d ∉ l.map Prod.fst := fun q => by
    obtain ⟨p, hp, e⟩ := List.mem_map.mp q
    exact absurd (l1 p hp) (by rw [e]; exact Nat.lt_irrefl _)
  have a2 : x ∉ l.map Prod.fst := fun q => by
    obtain ⟨p, hp, e⟩ := List.mem_map.mp q
    exact absurd (Nat.lt_trans (l1 p hp) l2) (by rw [e]; exact Nat.lt_irrefl _)
  refine List.nodup_cons.mpr ⟨fun q => ?_, List.nodup_cons.mpr ⟨a1, ND⟩⟩
  rcases List.mem_cons.mp q with e | q
  · have e' : x = d := e
    exact absurd l2 (by rw [e']; exact Nat.lt_irrefl _)
  · exact a2 q
section
variable {prog : Program} {w : World} {A : Around} {E : Value → Shared → Prop} {s s' : Shared} {L L' : Addr} {h₀ g hs : Heap} {m m' : Str → Option Value}
  {news small small' l : List (Addr × Obj)} {R : Result → Shared → Prop} {v : Value}
theorem back_grow (N0 : News h₀ L hs (small ++ news)) (ND0 : ((small ++ news).map Prod.fst).Nodup) (F' : Fr g L' s'.heap m') (N' : News g L' s'.heap small')
    (gk : ∀ a ob, (∀ p ∈ small, p.1 ≠ a) → hs.get? a = some ob → g.get? a = some ob) (hl : ∀ p ∈ l, p ∈ small') (nl : (l.map Prod.fst).Nodup)
    (k : Fr h₀ L s'.heap m → News h₀ L s'.heap (l ++ news) → ((l ++ news).map Prod.fst).Nodup → R (.ok (.ret v)) s') : Back h₀ L m hs small g R v s' := by
  have off : ∀ q ∈ news, ∀ p ∈ small, p.1 ≠ q.1 := fun q hq p hp => by
    rw [List.map_append] at ND0
    exact (List.nodup_append.mp ND0).2.2 _ (List.mem_map_of_mem hp) _ (List.mem_map_of_mem hq)
  have dj : ∀ q ∈ news, ∀ p ∈ l, p.1 ≠ q.1 := fun q hq p hp e => by
    have h1 := (N0 q (List.mem_append_right _ hq)).1
    have h2 := gk _ _ (off q hq) h1
    have h3 := (N' p (hl p hp)).2.2
    rw [e, h2] at h3; cases h3
  refine ⟨L', m', small', F', N', fun F Ns kp => k F (fun p hp => ?_) ?_⟩
  · rcases List.mem_append.mp hp with q | q
    · exact Ns p (hl p q)
    · exact ⟨kp _ _ (off p q) (N0 p (List.mem_append_right _ q)).1, (N0 p (List.mem_append_right _ q)).2⟩
  · rw [List.map_append] at ND0 ⊢
    refine List.nodup_append.mpr ⟨nl, (List.nodup_append.mp ND0).2.1, fun a ha b hb => ?_⟩
    obtain ⟨p, hp, rfl⟩ := List.mem_map.mp ha
    obtain ⟨q, hq, rfl⟩ := List.mem_map.mp hb
    exact dj q hq p hp
end
theorem ndl_nil : (([] : List (Addr × Obj)).map Prod.fst).Nodup := List.nodup_nil
theorem ndl_cons {a : Addr × Obj} {r : List (Addr × Obj)} (h1 : ∀ q ∈ r, q.1 ≠ a.1) (h2 : (r.map Prod.fst).Nodup) : ((a :: r).map Prod.fst).Nodup :=
  List.nodup_cons.mpr ⟨fun q => by
    obtain ⟨p, hp, e⟩ := List.mem_map.mp q
    exact h1 p hp e, h2⟩
theorem nd_oneG {g h : Heap} {L : Addr} {l : List (Addr × Obj)} {x : Addr} {ox : Obj} (_N : News g L h ((x, ox) :: l)) (ND : (l.map Prod.fst).Nodup) (l1 : ∀ p ∈ l, p.1 < x) : (((x, ox) :: l).map Prod.fst).Nodup :=
  ndl_cons (fun p hp => Nat.ne_of_lt (l1 p hp)) ND
theorem nd_pair {x d : Addr} (ox od : Obj) (l2 : d < x) : (([(x, ox), (d, od)] : List (Addr × Obj)).map Prod.fst).Nodup :=
  ndl_cons (fun p hp => by rw [List.mem_singleton.mp hp]; exact Nat.ne_of_lt l2) (ndl_cons (fun _ hp => absurd hp List.not_mem_nil) ndl_nil)
theorem words16 : True := by
  k_with "my_inl" => ((refine' code_inl ?q25k1 ?q25k2 ?q25kN ?q25k3 ?q25k4 ?q25k5 ?q25k6 ?q25k7 ?q25k8 ?_ ?q25c2 ?q25c3 ?q25c4 ?q25c5; (case q25k1 => k_asm); (case q25k2 => k_asm); (case q25kN => k_asm); (case q25k3 => k_asm); (case q25k4 => k_is); (case q25k5 => k_is); (case q25k6 => k_room); (case q25k7 => first | exact BindsTo.of_eq rfl | exact binds_K (by k_in) rfl (by k_is) rfl rfl rfl); (case q25k8 => exact locs rfl); (case q25c2 => exact rfl); (case q25c3 => exact rfl); (case q25c4 => exact rfl); (case q25c5 => decide); (intro z9g' z9L' z9h' z9FG' z9F' z9N' z9X' z9T'); dsimp only; (show wpAny _ _ _ _ _ _); k_fold))
  k_with "call ref" => ((k_here; k_dflt (first
  | (refine' call_cls0 ?q24k1 ?q24k2 ?q24k3 ?q24k4 ?q24k5 ?_; (case q24k1 => k_asm); (case q24k2 => k_asm); (case q24k3 => k_asm); (case q24k4 => k_is); (case q24k5 => k_is); k_whole; intro z9x' z9d' z9h' z9F' z9N' z9l1 z9l2; (try k_lt z9l1); (try k_lt2 z9l2); (try k_sweep))
  | (refine' call_cls ?q24k1 ?q24k2 ?q24k3 ?q24k4 ?q24k5 ?q24k6 ?_; (case q24k1 => k_asm); (case q24k2 => k_asm); (case q24k3 => k_asm); (case q24k4 => k_is); (case q24k5 => k_is); (case q24k6 => k_is); k_whole; intro z9x' z9d' z9h' z9F' z9N' z9l1 z9l2; (try k_lt z9l1); (try k_lt2 z9l2); (try k_sweep); k_extra "my_inl"))))
  k_with "k_ne" => ((refine neN ?_; (try dsimp only); first | k_extra "nd" | omega))
  k_with "call builtin:list.append" => ((k_here; (with_reducible show wpAny _ _ (call (Value.builtin _) [Value.ref _, _]) _ _ _); k_dflt (refine' my_append ?q26k1 ?q26k2 ?q26k3 ?q26z ?_; (case q26k1 => k_asm); (case q26k2 => k_asm); (case q26k3 => k_upd); (case q26z => rw [sizeLine_eq]; omega); k_whole); intro z9h' z9F' z9N'; (try k_sweep)))
  k_with "call builtin:len" => ((k_here; (with_reducible show wpAny _ _ (call (Value.builtin "len") [Value.ref _]) _ _ _); k_dflt (refine my_len (by k_asm) (by k_mem) (by k_asm) ?_)))
  k_with "getItem ref int" => ((k_here; k_dflt (refine my_at (by k_asm) (by k_mem) (by omega) (by omega) (by k_asm) ?_)))
  k_with "subscriptTail" => ((k_here; (with_reducible show wpAny _ _ (subscriptTail _ _ (Value.ref _) (Value.int _ _)) _ _ _); k_dflt (refine my_tail (by k_asm) (by k_mem) (by omega) (by omega) (by k_asm) ?_)))
  k_with "nn" => (first | exact List.forall_mem_nil _ | (refine' List.forall_mem_cons.mpr ⟨?q29a, ?q29b⟩; (case q29a => k_all); (case q29b => k_extra "nn")))
  k_with "hn" => (first | exact List.forall_mem_nil _ | (refine' List.forall_mem_cons.mpr ⟨?q30a, ?q30b⟩; (case q30a => k_extra "mem"); (case q30b => k_extra "hn")))
  k_with "my_enter2" => ((refine' code_foot ?q45k1 ?q45k2 ?q45k3 ?q45k4 ?q45k5 ?q45k6 ?q45k7 ?q45k8 _ ?q45kN ?_ ?q45c2 ?q45c3 ?q45c4 ?q45c5; (case q45k1 => k_asm); (case q45k2 => k_asm); (case q45k3 => k_asm); (case q45k4 => k_is); (case q45k5 => k_is); (case q45k6 => k_room); (case q45k7 => first | exact BindsTo.of_eq rfl | exact binds_K (by k_in) rfl (by k_is) rfl rfl rfl); (case q45k8 => exact locs rfl); (case q45kN => assumption); (case q45c2 => exact rfl); (case q45c3 => exact rfl); (case q45c4 => exact rfl); (case q45c5 => decide); (intro z9g' z9L' z9h' z9F' z9N' z9X' z9T' z9l1 z9hgk); (try k_lt z9l1); dsimp only; (show wpAny _ _ _ _ _ _); k_fold))
  k_with "ndn" => (first | exact List.forall_mem_nil _ | (refine' List.forall_mem_cons.mpr ⟨?q46a, ?q46b⟩; (case q46a => (refine neN ?_; (try dsimp only); omega)); (case q46b => k_extra "ndn")))
  k_with "ndl" => (first | exact ndl_nil | (refine' ndl_cons ?q47a ?q47b; (case q47a => k_extra "ndn"); (case q47b => k_extra "ndl")))
  trivial
section
theorem words17 : True := by
  k_with "chg2" => (first | exact Chg2.head | (refine' Chg2.tail ?q34c; (case q34c => k_extra "chg2")))
  k_with "chgF" => (first | exact ChgF.head | (refine' ChgF.tail ?q35c; (case q35c => k_extra "chgF")))
  k_with "myupd" => ((refine' upd_of ?q36nd ?q36c; (case q36nd => assumption); (case q36c => k_extra "chg2")))
  k_with "myupdF" => ((refine' updF_of ?q37nd ?q37c; (case q37nd => assumption); (case q37c => k_extra "chgF")))
  k_with "k_upd" => (k_extra "myupd")
  k_with "k_updF" => (k_extra "myupdF")
  k_with "call ref" => ((k_here; k_dflt (refine' call_cls ?q24k1 ?q24k2 ?q24k3 ?q24k4 ?q24k5 ?q24k6 ?_; (case q24k1 => k_asm); (case q24k2 => k_asm); (case q24k3 => k_asm); (case q24k4 => k_is); (case q24k5 => k_is); (case q24k6 => k_is); k_whole; intro z9x' z9d' z9h' z9F' z9N' z9l1 z9l2; k_dflt (have z9nd' := nd_twoG z9N' (by assumption) z9l1 z9l2); (simp only [List.map_cons, List.map_nil] at z9nd'); (try clear z9l1); (try clear z9l2); (try k_sweep); k_extra "my_inl")))
  k_with "eval Dict nil nil" => ((k_here; k_dflt (refine' newDict_K ?q48k1 ?q48k2 (TopRead.nolimit (by k_asm)) ?_; (case q48k1 => k_asm); (case q48k2 => k_asm); k_whole); intro z9d' z9h' z9o' z9F' z9N' z9l1 z9lo' z9hs' z9fs' z9hi' z9fi'; k_dflt (have z9nd' := nd_oneG z9N' (by assumption) z9l1); (simp only [List.map_cons, List.map_nil] at z9nd'); (try clear z9l1); (try clear z9fs'); (try clear z9fi'); (try k_sweep)))
  k_with "newList" => ((k_here; k_dflt (refine' newList_K ?q49k1 ?q49k2 ?_; (case q49k1 => k_asm); (case q49k2 => k_asm); k_whole); intro z9l' z9h' z9F' z9N' z9l1; k_dflt (have z9nd' := nd_oneG z9N' (by assumption) z9l1); (simp only [List.map_cons, List.map_nil] at z9nd'); (try clear z9l1); (try k_sweep)))
  k_with "eval Dict" => ((k_here; k_dflt (refine' kdn_str ?q50q ?q50F ?q50N ?q50b ?q50a ?q50l ?q50e ?q50n ?_; (case q50q => rfl); (case q50F => k_asm); (case q50N => k_asm); (case q50b => exact TopRead.nolimit (by k_asm)); (case q50a => rfl); (case q50l => rfl); (case q50e => exact List.cons_ne_nil _ _); (case q50n => exact Nat.le_of_ble_eq_true rfl)); intro z9d' z9h' z9o' z9F' z9N' z9l1 z9lo' z9hd'; k_dflt (have z9nd' := nd_oneG z9N' (by assumption) z9l1); (simp only [List.map_cons, List.map_nil] at z9nd'); (try clear z9l1)))
  k_with "setAttr ref" => ((k_here; k_dflt (refine' set_dict ?q44k1 ?q44k2 ?q44k3 ?q44k4 ?q44k5 ?q44k6 ?q44k7 ?q44k8 ?q44k9 ?q44k10 ?q44k11 ?q44k12 ?q44k13 ?_; (case q44k1 => k_asm); (case q44k2 => k_asm); (case q44k3 => k_asm); (case q44k4 => k_inst); (case q44k5 => exact rfl); (case q44k6 => k_is); (case q44k7 => k_is); (case q44k8 => k_is); (case q44k9 => k_is); (case q44k10 => k_get); (case q44k11 => k_put); (case q44k12 => k_extra "myupd"); (case q44k13 => exact Nat.le_of_ble_eq_true rfl); k_whole; intro z9h' z9F' z9N'; (try dsimp only at z9N'); (try k_sweep); (try dsimp only))))
  trivial
section
variable {w : World} {A : Around} {E : Value → Shared → Prop} {s : Shared} {L : Addr} {h₀ : Heap} {m mg mb : Str → Option Value}
  {news : List (Addr × Obj)} {p : Program} {loose : List Str}
def newLL (P : Params) (lo dlo lv : Addr) (t1 : Tok) (lvO : Obj) : List (Addr × Obj) := [(lv, lvO), (lo, instObj 421 dlo), (dlo, locO P t1 lv)]
theorem newLoc_c {Q : Value → Shared → Prop}
   (F : Fr h₀ L s.heap m) (N : News h₀ L s.heap news) (X : (hd.heap_1 w.params).In h₀) (T : TopRead p loose mg mb h₀) (hr : A.depth + 3 < recursionLimit) (ND : (news.map Prod.fst).Nodup)
   (h : ∀ h' tk' lo dlo lv t1 lvO, Fr h₀ L h' m → News h₀ L h' ([(lv, lvO), (lo, instObj 421 dlo), (dlo, locO w.params t1 lv)] ++ news) → (([(lv, lvO), (lo, instObj 421 dlo), (dlo, locO w.params t1 lv)] ++ news).map Prod.fst).Nodup →
     lvO.IsDictOf (PySem.intKind PySem.Challenge.rw_ok0067_01.row.prog w) [] → (lv == sysModules) = false → Q (.ref lo) { s with heap := h', toks := tk' }) :
   wpAny (model PySem.Challenge.rw_ok0067_01.row.prog w) A (call (.ref 421) []) Q E s := by
  refine' call_cls ?k1 ?k2 ?k3 ?k4 ?k5 ?k6 ?_
  case k1 => k_asm
  case k2 => k_asm
  case k3 => k_asm
  case k4 => k_is
  case k5 => k_is
  case k6 => k_is
  intro x' d' h1 F1 N1 l1 l2
  have ND1 := nd_twoG N1 ND l1 l2
  have N2 := news_sub (l' := [(x', instObj 421 d'), (d', dictOf [] 0)]) N1 (by simp)
  have ND2 := nd_pair (instObj 421 d') (dictOf [] 0) l2
  simp only [List.map_cons, List.map_nil] at ND2
  clear N l1 F
  k_extra "my_enter2"
  k_steps
  refine' back_grow (news := news) (small := [(x', instObj 421 d'), (d', dictOf [] 0)]) (l := newLL w.params x' d' _ _ _) N1 ND1 ?f ?n ?g ?hl ?nl ?k
  case f => assumption
  case n => assumption
  case g => assumption
  case hl => (delta newLL; intro p hp; exact hp)
  case nl => assumption
  case k =>
    intro F N ND
    exact ⟨rfl, h _ _ _ _ _ _ _ F N ND (by assumption) (by assumption)⟩
def newWL (P : Params) (W dW ob dob rw nm ce dce fn pl va dva df au pe ba dba bv : Addr) (u1 u2 u3 u4 u5 u6 u7 o1 o2 c1 c2 v1 v2 v3 l1 lt : Tok) (rn : Nat) (nmO fnO plO dfO auO peO bvO : Obj) : List (Addr × Obj) := [(bv, bvO), (ba, instObj 421 dba), (dba, locO P l1 bv), (pe, peO), (au, auO), (df, dfO), (va, instObj 365 dva), (dva, varsO P v1 v2 v3 df au pe), (pl, plO), (fn, fnO), (ce, instObj 225 dce), (dce, cellsO P c1 c2 fn pl), (nm, nmO), (rw, listOf [Value.ref 64, .ref 67].toArray rn), (ob, instObj 302 dob), (dob, obO P o1 o2 rw nm), (W, instObj 484 dW), (dW, worldO P u1 u2 u3 u4 u5 u6 u7 ob ce va ba .none 0 lt)]
theorem newW_c {Q : Value → Shared → Prop}
   (F : Fr h₀ L s.heap m) (N : News h₀ L s.heap news) (X : (hd.heap_1 w.params).In h₀) (T : TopRead p loose mg mb h₀) (hr : A.depth + 8 < recursionLimit) (ND : (news.map Prod.fst).Nodup)
   (h : ∀ h' tk' W dW ob dob rw nm ce dce fn pl va dva df au pe ba dba bv u1 u2 u3 u4 u5 u6 u7 o1 o2 c1 c2 v1 v2 v3 l1 lt rn nmO fnO plO dfO auO peO bvO, Fr h₀ L h' m → News h₀ L h' ([(bv, bvO), (ba, instObj 421 dba), (dba, locO w.params l1 bv), (pe, peO), (au, auO), (df, dfO), (va, instObj 365 dva), (dva, varsO w.params v1 v2 v3 df au pe), (pl, plO), (fn, fnO), (ce, instObj 225 dce), (dce, cellsO w.params c1 c2 fn pl), (nm, nmO), (rw, listOf [Value.ref 64, .ref 67].toArray rn), (ob, instObj 302 dob), (dob, obO w.params o1 o2 rw nm), (W, instObj 484 dW), (dW, worldO w.params u1 u2 u3 u4 u5 u6 u7 ob ce va ba .none 0 lt)] ++ news) → (([(bv, bvO), (ba, instObj 421 dba), (dba, locO w.params l1 bv), (pe, peO), (au, auO), (df, dfO), (va, instObj 365 dva), (dva, varsO w.params v1 v2 v3 df au pe), (pl, plO), (fn, fnO), (ce, instObj 225 dce), (dce, cellsO w.params c1 c2 fn pl), (nm, nmO), (rw, listOf [Value.ref 64, .ref 67].toArray rn), (ob, instObj 302 dob), (dob, obO w.params o1 o2 rw nm), (W, instObj 484 dW), (dW, worldO w.params u1 u2 u3 u4 u5 u6 u7 ob ce va ba .none 0 lt)] ++ news).map Prod.fst).Nodup →
     nmO.IsDictOf (PySem.strKind PySem.Challenge.rw_ok0067_01.row.prog w) [("nil", .ref 64), ("t", .ref 67)] → fnO.IsDictOf (PySem.intKind PySem.Challenge.rw_ok0067_01.row.prog w) [] → dfO.IsDictOf (PySem.intKind PySem.Challenge.rw_ok0067_01.row.prog w) [] → auO.IsDictOf (PySem.intKind PySem.Challenge.rw_ok0067_01.row.prog w) [] → bvO.IsDictOf (PySem.intKind PySem.Challenge.rw_ok0067_01.row.prog w) [] → (nm == sysModules) = false → (fn == sysModules) = false → (df == sysModules) = false → (au == sysModules) = false → (bv == sysModules) = false → Q (.ref W) { s with heap := h', toks := tk' }) :
   wpAny (model PySem.Challenge.rw_ok0067_01.row.prog w) A (call (.ref 484) []) Q E s := by
  refine' call_cls ?k1 ?k2 ?k3 ?k4 ?k5 ?k6 ?_
  case k1 => k_asm
  case k2 => k_asm
  case k3 => k_asm
  case k4 => k_is
  case k5 => k_is
  case k6 => k_is
  intro x' d' h1 F1 N1 l1 l2
  have ND1 := nd_twoG N1 ND l1 l2
  have N2 := news_sub (l' := [(x', instObj 484 d'), (d', dictOf [] 0)]) N1 (by simp)
  have ND2 := nd_pair (instObj 484 d') (dictOf [] 0) l2
  simp only [List.map_cons, List.map_nil] at ND2
  clear N l1 F
  k_extra "my_enter2"
  k_steps
  refine' back_grow (news := news) (small := [(x', instObj 484 d'), (d', dictOf [] 0)]) (l := newWL w.params x' d' _ _ _ _ _ _ _ _ _ _ _ _ _ _ _ _ _ _ _ _ _ _ _ _ _ _ _ _ _ _ _ _ _ _ _ _ _ _ _ _) N1 ND1 ?f ?n ?g ?hl ?nl ?k
  case f => assumption
  case n => assumption
  case g => assumption
  case hl => (delta newWL; intro p hp; exact hp)
  case nl => (delta newWL; assumption)
  case k =>
    intro F N ND
    exact ⟨rfl, h _ _ _ _ _ _ _ _ _ _ _ _ _ _ _ _ _ _ _ _ _ _ _ _ _ _ _ _ _ _ _ _ _ _ _ _ _ _ _ _ _ _ _ _ F N ND (by assumption) (by assumption) (by assumption) (by assumption) (by assumption) (by assumption) (by assumption) (by assumption) (by assumption) (by assumption)⟩
end
section
variable {w : World} {A : Around} {E : Value → Shared → Prop} {s : Shared} {L : Addr} {h₀ : Heap} {m mg mb : Str → Option Value}
  {news : List (Addr × Obj)} {p : Program} {loose : List Str}
theorem newBuf_c {k : Int} {t u : Tok} {nm : PySem.Str} {Q : Value → Shared → Prop}
   (F : Fr h₀ L s.heap m) (N : News h₀ L s.heap news) (X : (hd.heap_1 w.params).In h₀) (T : TopRead p loose mg mb h₀) (hr : A.depth + 8 < recursionLimit) (hA : A.handled = none) (ND : (news.map Prod.fst).Nodup)
   (h : ∀ h' tk' b d es n, Fr h₀ L h' m → News h₀ L h' ([(b, instObj 751 d), (d, dictOf es n)] ++ news) → (([(b, instObj 751 d), (d, dictOf es n)] ++ news).map Prod.fst).Nodup →
     getL "locals" es = some (some .none) → es.length ≤ 100 → Q (.ref b) { s with heap := h', toks := tk' }) :
   wpAny (model PySem.Challenge.rw_ok0067_01.row.prog w) A (call (.ref 751) [.int k t, .str nm u]) Q E s := by
  refine' call_cls ?k1 ?k2 ?k3 ?k4 ?k5 ?k6 ?_
  case k1 => k_asm
  case k2 => k_asm
  case k3 => k_asm
  case k4 => k_is
  case k5 => k_is
  case k6 => k_is
  intro x' d' h1 F1 N1 l1 l2
  have ND1 := nd_twoG N1 ND l1 l2
  have N2 := news_sub (l' := [(x', instObj 751 d'), (d', dictOf [] 0)]) N1 (by simp)
  have ND2 := nd_pair (instObj 751 d') (dictOf [] 0) l2
  simp only [List.map_cons, List.map_nil] at ND2
  clear N l1 F
  k_extra "my_enter2"
  k_steps
  refine' back_grow (news := news) (small := [(x', instObj 751 d'), (d', dictOf [] 0)]) (l := [(x', instObj 751 d'), (d', dictOf _ _)]) N1 ND1 ?f ?n ?g ?hl ?nl ?k
  case f => assumption
  case n => assumption
  case g => assumption
  case hl => k_extra "hn"
  case nl => assumption
  case k =>
    intro F N ND
    exact ⟨rfl, h _ _ _ _ _ _ F N ND rfl (Nat.le_of_ble_eq_true rfl)⟩
end
end
theorem words18 : True := by
  k_with_none
  k_with "my_enter" => ((refine wpAny_call ?_; refine' code_foot ?q0k1 ?q0k2 ?q0k3 ?q0k4 ?q0k5 ?q0k6 ?q0k7 ?q0k8 _ ?q0kN ?_ ?q0c2 ?q0c3 ?q0c4 ?q0c5; (case q0k1 => k_asm); (case q0k2 => k_asm); (case q0k3 => k_asm); (case q0k4 => k_is); (case q0k5 => k_is); (case q0k6 => omega); (case q0k7 => first | exact BindsTo.of_eq rfl | exact binds_K (by k_in) rfl (by k_is) rfl rfl rfl); (case q0k8 => exact locs rfl); (case q0kN => assumption); (case q0c2 => exact rfl); (case q0c3 => exact rfl); (case q0c4 => exact rfl); (case q0c5 => decide); (intro z9g' z9L' z9h' z9F' z9N' z9X' z9T' z9l1 z9hgk); (try k_lt z9l1); dsimp only; (show wpAny _ _ _ _ _ _); k_fold))
  k_with "k_room" => (((try simp only [depth_under_make, depth_under_kw, depth_in1, depth_deeper]); omega))
  k_with "call builtin:dict.get" => ((k_here; k_dflt (first
  | refine kdg_get1 (knd := PySem.strKind _ _) (by k_asm) (by k_mem) (by k_asm) (by k_asm) (strKind_is _ _ _ _) _ (by first | k_asm | rfl) ?_
  | refine kdg_get2 (knd := PySem.strKind _ _) (by k_asm) (by k_mem) (by k_asm) (by k_asm) (strKind_is _ _ _ _) _ (by first | k_asm | rfl) ?_
  | refine kdg_get1 (knd := PySem.intKind _ _) (by k_asm) (by k_mem) (by k_asm) (by k_asm) (intKind_is _ _ _ _) _ (by first | k_asm | rfl) ?_
  | refine kdg_get2 (knd := PySem.intKind _ _) (by k_asm) (by k_mem) (by k_asm) (by k_asm) (intKind_is _ _ _ _) _ (by first | k_asm | rfl) ?_); (try dsimp only [Option.getD_some, Option.getD_none])))
  k_with "getMethod ref" => ((k_here; (with_reducible show wpAny _ _ (getMethod (Value.ref _) (Str.ofString "get") _) _ _ _); k_dflt (first
  | refine kdg_method (knd := PySem.strKind _ _) (by k_asm) (by k_mem) (by k_asm) ?_
  | refine kdg_method (knd := PySem.intKind _ _) (by k_asm) (by k_mem) (by k_asm) ?_)))
  k_with "compareOp In int ref" => ((k_here; k_dflt (refine kda_in (knd := PySem.intKind _ _) (by k_asm) (by k_mem) (by k_asm) (by k_asm) (intKind_is _ _ _ _) _ (by rfl) ?_)))
  k_with "compareOp In str ref" => ((k_here; k_dflt (refine kda_in (knd := PySem.strKind _ _) (by k_asm) (by k_mem) (by k_asm) (by k_asm) (strKind_is _ _ _ _) _ (by rfl) ?_)))
  k_with "compareOp NotIn int ref" => ((k_here; k_dflt (refine kdg_notin (knd := PySem.intKind _ _) (by k_asm) (by k_mem) (by k_asm) (by k_asm) (intKind_is _ _ _ _) _ (by rfl) ?_)))
  k_with "compareOp NotIn str ref" => ((k_here; k_dflt (refine kdg_notin (knd := PySem.strKind _ _) (by k_asm) (by k_mem) (by k_asm) (by k_asm) (strKind_is _ _ _ _) _ (by rfl) ?_)))
  k_with "nd1" => (first | (refine NdGoal.left ?_; k_mem) | (refine NdGoal.right ?_; k_mem) | (refine NdGoal.tail ?_; k_extra "nd1"))
  k_with "nd" => (first | assumption | exact Ne.symm (by assumption) | (refine' nd_start ?q10ND ?_; (case q10ND => assumption); k_extra "nd1"))
  k_with "k_ne" => ((refine neN ?_; (try dsimp only); k_extra "nd"))
  k_with "setItem ref int" => ((k_here; k_dflt (refine' kda_set (knd := PySem.intKind _ _) ?q12F ?q12N ?q12U ?q12d (intKind_is _ _ _ _) ?q12z ?_; (case q12F => k_asm); (case q12N => k_asm); (case q12U => k_updF); (case q12d => k_asm); (case q12z => rw [sizeLine_eq]; omega)); intro z9h' z9o' z9F' z9N' z9hd'; (try dsimp only at z9N'); (try k_sweep)))
  k_with "setItem ref str" => ((k_here; k_dflt (refine' kda_set (knd := PySem.strKind _ _) ?q13F ?q13N ?q13U ?q13d (strKind_is _ _ _ _) ?q13z ?_; (case q13F => k_asm); (case q13N => k_asm); (case q13U => k_updF); (case q13d => k_asm); (case q13z => rw [sizeLine_eq]; omega)); intro z9h' z9o' z9F' z9N' z9hd'; (try dsimp only at z9N'); (try k_sweep)))
  k_with "mem" => (first | exact List.Mem.head _ | (refine List.Mem.tail _ ?_; k_extra "mem"))
  k_with "sub_but" => ((refine' List.forall_mem_cons.mpr ⟨?q15a, ?q15b⟩; (case q15a => (intro z9hne; first | exact absurd rfl z9hne | k_extra "mem")); (case q15b => first | exact List.forall_mem_nil _ | k_extra "sub_but")))
  k_with "chg" => (first | exact Chg.head | (refine' Chg.tail ?q16c; (case q16c => k_extra "chg")))
  k_with "sub" => (first | exact (fun _ z9hp => z9hp) | (intro z9p z9hp; refine List.mem_cons_of_mem _ ?_; revert z9p; k_extra "sub"))
  k_with "call builtin:dict.pop" => ((k_here; k_dflt (first
  | (refine' my_pop1 (knd := PySem.intKind _ _) ?q18F ?q18N ?q18U ?q18d (intKind_is _ _ _ _) ?q18p ?q18l ?q18z ?_; (case q18F => k_asm); (case q18N => k_asm); (case q18U => k_updF); (case q18d => k_asm); (case q18p => rfl); (case q18l => k_asm); (case q18z => rw [sizeLine_eq]; omega); intro z9h' z9o' z9v' z9F' z9N' z9hd')
  | (refine' my_pop2 (knd := PySem.strKind _ _) ?q18F ?q18N ?q18U ?q18d ?q18lo (strKind_is _ _ _ _) ?q18p ?q18z ?_; (case q18F => k_asm); (case q18N => k_asm); (case q18U => k_updF); (case q18d => k_asm); (case q18lo => k_asm); (case q18p => rfl); (case q18z => rw [sizeLine_eq]; omega); intro z9h' z9o' z9v' z9tk' z9F' z9N' z9hd')); (try dsimp only at z9N'); (try k_sweep)))
  k_with "sub_but2" => ((refine' List.forall_mem_cons.mpr ⟨?q19a, ?q19b⟩; (case q19a => (intro z9hne z9hne2; first | exact absurd rfl z9hne | exact absurd rfl z9hne2 | k_extra "mem")); (case q19b => first | exact List.forall_mem_nil _ | k_extra "sub_but2")))
  k_with "my_inl" => ((refine' code_inl ?q25k1 ?q25k2 ?q25kN ?q25k3 ?q25k4 ?q25k5 ?q25k6 ?q25k7 ?q25k8 ?_ ?q25c2 ?q25c3 ?q25c4 ?q25c5; (case q25k1 => k_asm); (case q25k2 => k_asm); (case q25kN => k_asm); (case q25k3 => k_asm); (case q25k4 => k_is); (case q25k5 => k_is); (case q25k6 => k_room); (case q25k7 => first | exact BindsTo.of_eq rfl | exact binds_K (by k_in) rfl (by k_is) rfl rfl rfl); (case q25k8 => exact locs rfl); (case q25c2 => exact rfl); (case q25c3 => exact rfl); (case q25c4 => exact rfl); (case q25c5 => decide); (intro z9g' z9L' z9h' z9FG' z9F' z9N' z9X' z9T'); dsimp only; (show wpAny _ _ _ _ _ _); k_fold))
  k_with "call ref" => ((k_here; k_dflt (first
  | (refine' call_cls0 ?q24k1 ?q24k2 ?q24k3 ?q24k4 ?q24k5 ?_; (case q24k1 => k_asm); (case q24k2 => k_asm); (case q24k3 => k_asm); (case q24k4 => k_is); (case q24k5 => k_is); k_whole; intro z9x' z9d' z9h' z9F' z9N' z9l1 z9l2; (try k_lt z9l1); (try k_lt2 z9l2); (try k_sweep))
  | (refine' call_cls ?q24k1 ?q24k2 ?q24k3 ?q24k4 ?q24k5 ?q24k6 ?_; (case q24k1 => k_asm); (case q24k2 => k_asm); (case q24k3 => k_asm); (case q24k4 => k_is); (case q24k5 => k_is); (case q24k6 => k_is); k_whole; intro z9x' z9d' z9h' z9F' z9N' z9l1 z9l2; (try k_lt z9l1); (try k_lt2 z9l2); (try k_sweep); k_extra "my_inl"))))
  k_with "k_ne" => ((refine neN ?_; (try dsimp only); first | k_extra "nd" | omega))
  k_with "call builtin:list.append" => ((k_here; (with_reducible show wpAny _ _ (call (Value.builtin _) [Value.ref _, _]) _ _ _); k_dflt (refine' my_append ?q26k1 ?q26k2 ?q26k3 ?q26z ?_; (case q26k1 => k_asm); (case q26k2 => k_asm); (case q26k3 => k_upd); (case q26z => rw [sizeLine_eq]; omega); k_whole); intro z9h' z9F' z9N'; (try k_sweep)))
  k_with "call builtin:len" => ((k_here; (with_reducible show wpAny _ _ (call (Value.builtin "len") [Value.ref _]) _ _ _); k_dflt (refine my_len (by k_asm) (by k_mem) (by k_asm) ?_)))
  k_with "getItem ref int" => ((k_here; k_dflt (refine my_at (by k_asm) (by k_mem) (by omega) (by omega) (by k_asm) ?_)))
  k_with "subscriptTail" => ((k_here; (with_reducible show wpAny _ _ (subscriptTail _ _ (Value.ref _) (Value.int _ _)) _ _ _); k_dflt (refine my_tail (by k_asm) (by k_mem) (by omega) (by omega) (by k_asm) ?_)))
  k_with "nn" => (first | exact List.forall_mem_nil _ | (refine' List.forall_mem_cons.mpr ⟨?q29a, ?q29b⟩; (case q29a => k_all); (case q29b => k_extra "nn")))
  k_with "hn" => (first | exact List.forall_mem_nil _ | (refine' List.forall_mem_cons.mpr ⟨?q30a, ?q30b⟩; (case q30a => k_extra "mem"); (case q30b => k_extra "hn")))
  k_with "my_enter2" => ((refine' code_foot ?q45k1 ?q45k2 ?q45k3 ?q45k4 ?q45k5 ?q45k6 ?q45k7 ?q45k8 _ ?q45kN ?_ ?q45c2 ?q45c3 ?q45c4 ?q45c5; (case q45k1 => k_asm); (case q45k2 => k_asm); (case q45k3 => k_asm); (case q45k4 => k_is); (case q45k5 => k_is); (case q45k6 => k_room); (case q45k7 => first | exact BindsTo.of_eq rfl | exact binds_K (by k_in) rfl (by k_is) rfl rfl rfl); (case q45k8 => exact locs rfl); (case q45kN => assumption); (case q45c2 => exact rfl); (case q45c3 => exact rfl); (case q45c4 => exact rfl); (case q45c5 => decide); (intro z9g' z9L' z9h' z9F' z9N' z9X' z9T' z9l1 z9hgk); (try k_lt z9l1); dsimp only; (show wpAny _ _ _ _ _ _); k_fold))
  k_with "ndn" => (first | exact List.forall_mem_nil _ | (refine' List.forall_mem_cons.mpr ⟨?q46a, ?q46b⟩; (case q46a => (refine neN ?_; (try dsimp only); omega)); (case q46b => k_extra "ndn")))
  k_with "ndl" => (first | exact ndl_nil | (refine' ndl_cons ?q47a ?q47b; (case q47a => k_extra "ndn"); (case q47b => k_extra "ndl")))
  trivial
section
theorem isList_off {h g : Heap} {sc : Addr} {a : Array Value} (hgk : ∀ a ob, (∀ p ∈ ([] : List (Addr × Obj)), p.1 ≠ a) → h.get? a = some ob → g.get? a = some ob) (hL : h.IsList sc a) : g.IsList sc a := by
  obtain ⟨o, h1, h2⟩ := hL
  exact ⟨o, hgk _ _ (fun _ hp => absurd hp List.not_mem_nil) h1, h2⟩
section
variable {M : Model} {A : Around} {E : Value → Shared → Prop} {s : Shared} {K : Frag} {h₀ : Heap} {L C : Addr} {m mg mb : Str → Option Value} {p : Program} {loose : List Str} {scope : Scope} {cl : List (Str × Addr)} {env : Env} {x : Str} {pos : Pos} {v : Value} {Q : Value → Shared → Prop}
theorem ld_builtR (F : Fr h₀ L s.heap m) (X : K.In h₀) (T : TopRead p loose mg mb h₀) (e : nsIn K mainGlobals x = some none) (hv : bootBuiltins x = some v) (hn : x ≠ "__name__") (h : Q v s) (hg : env.globals = mainGlobals := by rfl) (hb : env.builtins = builtinsNs := by rfl)
    (hk : (compEnvC scope cl C env).scope.kind = .function := by rfl) (hx : (compEnvC scope cl C env).kindOf x = some .globalImplicit := by rfl) (hd : (x == ("__debug__" : Str)) = false := by decide) :
    wpAny M A (eval (.Name x pos) (compEnvC scope cl C env)) Q E s :=
  Name_function_global hk hx (loadGlobal_builtin (env := compEnvC scope cl C env) (show s.heap.Ns env.globals mg from hg ▸ (T.keeps F.keep).g) (mg_none_of X T.g e) (show s.heap.Ns env.builtins mb from hb ▸ (T.keeps F.keep).b) ((T.builtins x hn).trans hv) h) hd
end
theorem sum_fmod (l : List Int) : 0 ≤ (l.map (fun k => Int.fmod k 1009)).sum ∧ (l.map (fun k => Int.fmod k 1009)).sum ≤ 1008 * (l.length : Int) := by
  induction l with
  | nil => exact ⟨Int.le_refl 0, Int.le_refl 0⟩
  | cons a l ih =>
    have h1 := Int.fmod_nonneg_of_pos a (show (0 : Int) < 1009 by decide)
    have h2 := Int.fmod_lt_of_pos a (show (0 : Int) < 1009 by decide)
    simp only [List.map_cons, List.sum_cons, List.length_cons]
    omega
theorem ints_len {us : List Value} {is : List Int} (h : IntsAre us is) (hl : is.length ≤ 63) : us.length ≤ 1000 := by
  have := h.length
  omega
theorem words19 : True := by
  k_with "eval ListComp" => ((k_here; k_dflt (refine LCg.ListComp_U (F₀ := by k_asm) (by with_unfolding_all rfl) (by decide) (by rfl) (by decide) (by rfl) ?_)))
  k_with "eval Name" => ((k_here; (with_reducible show wpAny _ _ (eval (Expr.Name _ _) (compEnvC _ _ _ _)) _ _ _); k_dflt (first
  | refine LCgL.ld_own (by k_asm) (by k_mem) (by assumption) (by assumption) ?_
  | refine ld_builtR (by k_asm) (by k_asm) (by k_asm) (by k_is) (by boot_by_name) (by decide) ?_)))
  k_with "call builtin:sum" => ((k_here; (with_reducible show wpAny _ _ (call (Value.builtin "sum") [Value.ref _]) _ _ _); (with_unfolding_all refine' sumK ?q53k0 ?q53k1 ?q53k2 ?q53k3 ?q53k4 ?_; (case q53k0 => first | assumption | with_unfolding_all rfl); (case q53k1 => k_asm); (case q53k2 => k_asm); (case q53k3 => is_list); (case q53k4 => first | assumption | l_ints | l_intsW); k_whole); intro z9h' z9tk' z9t' z9F' z9N'))
  trivial
section
variable {w : World} {A : Around} {E : Value → Shared → Prop} {s : Shared} {L : Addr} {h₀ : Heap} {m mg mb : Str → Option Value}
  {news : List (Addr × Obj)} {p : Program} {loose : List Str}
theorem pot_c {sc : Addr} {vs : List Value} {ns : List Int} {Q : Value → Shared → Prop}
   (F : Fr h₀ L s.heap m) (N : News h₀ L s.heap news) (X : (hd.heap_1 w.params).In h₀) (T : TopRead p loose mg mb h₀) (hr : A.depth + 6 < recursionLimit) (hA : A.handled = none) (ND : (news.map Prod.fst).Nodup)
   (hL : s.heap.IsList sc vs.toArray) (hI : IntsAre vs ns) (hn : ns.length ≤ 63)
   (h : ∀ h' tk' P xs us is sd ta ts n1 n2, Fr h₀ L h' m → News h₀ L h' ([(P, listOf [Value.ref xs, .int 0 ta, .int sd ts].toArray n1), (xs, listOf us.toArray n2)] ++ news) → (([(P, listOf [Value.ref xs, .int 0 ta, .int sd ts].toArray n1), (xs, listOf us.toArray n2)] ++ news).map Prod.fst).Nodup →
     IntsAre us is → us.length ≤ 1000 → 0 ≤ sd → sd ≤ 70000 → Q (.ref P) { s with heap := h', toks := tk' }) :
   wpAny (model PySem.Challenge.rw_ok0067_01.row.prog w) A (call (.ref 758) [.ref sc]) Q E s := by
  have N1 : News h₀ L s.heap ([] ++ news) := N
  have ND1 : (([] ++ news).map Prod.fst).Nodup := ND
  have N2 : News h₀ L s.heap [] := news_sub (l' := []) N (List.forall_mem_nil _)
  clear N
  k_extra "my_enter"
  have hL2 := isList_off (by assumption) hL
  clear hL
  k_steps
  rename IntsAre _ (List.take 63 ns) => hI9
  have hl9 := hI9.length
  have hl8 : (List.take 63 ns).length ≤ 63 := by rw [List.length_take]; omega
  refine LCg.CompSrc.ledger (by first | assumption | rfl) (by k_asm) (by k_asm) (by k_mem) (by rw [PySem.sizeLine_eq]; simp only [List.size_toArray]; omega) ?_
  intro g'
  refine' kcf_list (fun k => Int.fmod k 1009) (by assumption) (fun k' t' I' oI' C' oC' D' m' ys' h' tk' E' hk' hC' hx' F' N' off' ne' hMark' => ?_) ?_
  simp only [LCg.Off3, and_true] at off'
  show wpAny _ _ _ _ _ _
  k_steps
  have hs9 := sum_fmod (List.take 63 ns)
  refine' back_grow (news := news) (small := []) (l := potL _ _ 0 _ _ _ _ _ _) N1 ND1 ?f ?n ?g ?hl ?nl ?k
  case f => assumption
  case n => assumption
  case g => assumption
  case hl => (delta potL; k_extra "hn")
  case nl => (delta potL; k_extra "ndl")
  case k =>
    intro F N ND
    exact h _ _ _ _ _ _ _ _ _ _ _ F N ND (by assumption) (ints_len (by assumption) hl8) (by omega) (by omega)
end
end
theorem words20 : True := by
  k_with_none
  k_with "my_enter" => ((refine wpAny_call ?_; refine' code_foot ?q0k1 ?q0k2 ?q0k3 ?q0k4 ?q0k5 ?q0k6 ?q0k7 ?q0k8 _ ?q0kN ?_ ?q0c2 ?q0c3 ?q0c4 ?q0c5; (case q0k1 => k_asm); (case q0k2 => k_asm); (case q0k3 => k_asm); (case q0k4 => k_is); (case q0k5 => k_is); (case q0k6 => omega); (case q0k7 => first | exact BindsTo.of_eq rfl | exact binds_K (by k_in) rfl (by k_is) rfl rfl rfl); (case q0k8 => exact locs rfl); (case q0kN => assumption); (case q0c2 => exact rfl); (case q0c3 => exact rfl); (case q0c4 => exact rfl); (case q0c5 => decide); (intro z9g' z9L' z9h' z9F' z9N' z9X' z9T' z9l1 z9hgk); (try k_lt z9l1); dsimp only; (show wpAny _ _ _ _ _ _); k_fold))
  k_with "k_room" => (((try simp only [depth_under_make, depth_under_kw, depth_in1, depth_deeper]); omega))
  k_with "call builtin:dict.get" => ((k_here; k_dflt (first
  | refine kdg_get1 (knd := PySem.strKind _ _) (by k_asm) (by k_mem) (by k_asm) (by k_asm) (strKind_is _ _ _ _) _ (by first | k_asm | rfl) ?_
  | refine kdg_get2 (knd := PySem.strKind _ _) (by k_asm) (by k_mem) (by k_asm) (by k_asm) (strKind_is _ _ _ _) _ (by first | k_asm | rfl) ?_
  | refine kdg_get1 (knd := PySem.intKind _ _) (by k_asm) (by k_mem) (by k_asm) (by k_asm) (intKind_is _ _ _ _) _ (by first | k_asm | rfl) ?_
  | refine kdg_get2 (knd := PySem.intKind _ _) (by k_asm) (by k_mem) (by k_asm) (by k_asm) (intKind_is _ _ _ _) _ (by first | k_asm | rfl) ?_); (try dsimp only [Option.getD_some, Option.getD_none])))
  k_with "getMethod ref" => ((k_here; (with_reducible show wpAny _ _ (getMethod (Value.ref _) (Str.ofString "get") _) _ _ _); k_dflt (first
  | refine kdg_method (knd := PySem.strKind _ _) (by k_asm) (by k_mem) (by k_asm) ?_
  | refine kdg_method (knd := PySem.intKind _ _) (by k_asm) (by k_mem) (by k_asm) ?_)))
  k_with "compareOp In int ref" => ((k_here; k_dflt (refine kda_in (knd := PySem.intKind _ _) (by k_asm) (by k_mem) (by k_asm) (by k_asm) (intKind_is _ _ _ _) _ (by rfl) ?_)))
  k_with "compareOp In str ref" => ((k_here; k_dflt (refine kda_in (knd := PySem.strKind _ _) (by k_asm) (by k_mem) (by k_asm) (by k_asm) (strKind_is _ _ _ _) _ (by rfl) ?_)))
  k_with "compareOp NotIn int ref" => ((k_here; k_dflt (refine kdg_notin (knd := PySem.intKind _ _) (by k_asm) (by k_mem) (by k_asm) (by k_asm) (intKind_is _ _ _ _) _ (by rfl) ?_)))
  k_with "compareOp NotIn str ref" => ((k_here; k_dflt (refine kdg_notin (knd := PySem.strKind _ _) (by k_asm) (by k_mem) (by k_asm) (by k_asm) (strKind_is _ _ _ _) _ (by rfl) ?_)))
  k_with "nd1" => (first | (refine NdGoal.left ?_; k_mem) | (refine NdGoal.right ?_; k_mem) | (refine NdGoal.tail ?_; k_extra "nd1"))
  k_with "nd" => (first | assumption | exact Ne.symm (by assumption) | (refine' nd_start ?q10ND ?_; (case q10ND => assumption); k_extra "nd1"))
  k_with "k_ne" => ((refine neN ?_; (try dsimp only); k_extra "nd"))
  k_with "setItem ref int" => ((k_here; k_dflt (refine' kda_set (knd := PySem.intKind _ _) ?q12F ?q12N ?q12U ?q12d (intKind_is _ _ _ _) ?q12z ?_; (case q12F => k_asm); (case q12N => k_asm); (case q12U => k_updF); (case q12d => k_asm); (case q12z => rw [sizeLine_eq]; omega)); intro z9h' z9o' z9F' z9N' z9hd'; (try dsimp only at z9N'); (try k_sweep)))
  k_with "setItem ref str" => ((k_here; k_dflt (refine' kda_set (knd := PySem.strKind _ _) ?q13F ?q13N ?q13U ?q13d (strKind_is _ _ _ _) ?q13z ?_; (case q13F => k_asm); (case q13N => k_asm); (case q13U => k_updF); (case q13d => k_asm); (case q13z => rw [sizeLine_eq]; omega)); intro z9h' z9o' z9F' z9N' z9hd'; (try dsimp only at z9N'); (try k_sweep)))
  k_with "mem" => (first | exact List.Mem.head _ | (refine List.Mem.tail _ ?_; k_extra "mem"))
  k_with "sub_but" => ((refine' List.forall_mem_cons.mpr ⟨?q15a, ?q15b⟩; (case q15a => (intro z9hne; first | exact absurd rfl z9hne | k_extra "mem")); (case q15b => first | exact List.forall_mem_nil _ | k_extra "sub_but")))
  k_with "chg" => (first | exact Chg.head | (refine' Chg.tail ?q16c; (case q16c => k_extra "chg")))
  k_with "sub" => (first | exact (fun _ z9hp => z9hp) | (intro z9p z9hp; refine List.mem_cons_of_mem _ ?_; revert z9p; k_extra "sub"))
  k_with "call builtin:dict.pop" => ((k_here; k_dflt (first
  | (refine' my_pop1 (knd := PySem.intKind _ _) ?q18F ?q18N ?q18U ?q18d (intKind_is _ _ _ _) ?q18p ?q18l ?q18z ?_; (case q18F => k_asm); (case q18N => k_asm); (case q18U => k_updF); (case q18d => k_asm); (case q18p => rfl); (case q18l => k_asm); (case q18z => rw [sizeLine_eq]; omega); intro z9h' z9o' z9v' z9F' z9N' z9hd')
  | (refine' my_pop2 (knd := PySem.strKind _ _) ?q18F ?q18N ?q18U ?q18d ?q18lo (strKind_is _ _ _ _) ?q18p ?q18z ?_; (case q18F => k_asm); (case q18N => k_asm); (case q18U => k_updF); (case q18d => k_asm); (case q18lo => k_asm); (case q18p => rfl); (case q18z => rw [sizeLine_eq]; omega); intro z9h' z9o' z9v' z9tk' z9F' z9N' z9hd')); (try dsimp only at z9N'); (try k_sweep)))
  k_with "sub_but2" => ((refine' List.forall_mem_cons.mpr ⟨?q19a, ?q19b⟩; (case q19a => (intro z9hne z9hne2; first | exact absurd rfl z9hne | exact absurd rfl z9hne2 | k_extra "mem")); (case q19b => first | exact List.forall_mem_nil _ | k_extra "sub_but2")))
  k_with "my_inl" => ((refine' code_inl ?q25k1 ?q25k2 ?q25kN ?q25k3 ?q25k4 ?q25k5 ?q25k6 ?q25k7 ?q25k8 ?_ ?q25c2 ?q25c3 ?q25c4 ?q25c5; (case q25k1 => k_asm); (case q25k2 => k_asm); (case q25kN => k_asm); (case q25k3 => k_asm); (case q25k4 => k_is); (case q25k5 => k_is); (case q25k6 => k_room); (case q25k7 => first | exact BindsTo.of_eq rfl | exact binds_K (by k_in) rfl (by k_is) rfl rfl rfl); (case q25k8 => exact locs rfl); (case q25c2 => exact rfl); (case q25c3 => exact rfl); (case q25c4 => exact rfl); (case q25c5 => decide); (intro z9g' z9L' z9h' z9FG' z9F' z9N' z9X' z9T'); dsimp only; (show wpAny _ _ _ _ _ _); k_fold))
  k_with "call ref" => ((k_here; k_dflt (first
  | (refine' call_cls0 ?q24k1 ?q24k2 ?q24k3 ?q24k4 ?q24k5 ?_; (case q24k1 => k_asm); (case q24k2 => k_asm); (case q24k3 => k_asm); (case q24k4 => k_is); (case q24k5 => k_is); k_whole; intro z9x' z9d' z9h' z9F' z9N' z9l1 z9l2; (try k_lt z9l1); (try k_lt2 z9l2); (try k_sweep))
  | (refine' call_cls ?q24k1 ?q24k2 ?q24k3 ?q24k4 ?q24k5 ?q24k6 ?_; (case q24k1 => k_asm); (case q24k2 => k_asm); (case q24k3 => k_asm); (case q24k4 => k_is); (case q24k5 => k_is); (case q24k6 => k_is); k_whole; intro z9x' z9d' z9h' z9F' z9N' z9l1 z9l2; (try k_lt z9l1); (try k_lt2 z9l2); (try k_sweep); k_extra "my_inl"))))
  k_with "k_ne" => ((refine neN ?_; (try dsimp only); first | k_extra "nd" | omega))
  k_with "call builtin:list.append" => ((k_here; (with_reducible show wpAny _ _ (call (Value.builtin _) [Value.ref _, _]) _ _ _); k_dflt (refine' my_append ?q26k1 ?q26k2 ?q26k3 ?q26z ?_; (case q26k1 => k_asm); (case q26k2 => k_asm); (case q26k3 => k_upd); (case q26z => rw [sizeLine_eq]; omega); k_whole); intro z9h' z9F' z9N'; (try k_sweep)))
  k_with "call builtin:len" => ((k_here; (with_reducible show wpAny _ _ (call (Value.builtin "len") [Value.ref _]) _ _ _); k_dflt (refine my_len (by k_asm) (by k_mem) (by k_asm) ?_)))
  k_with "getItem ref int" => ((k_here; k_dflt (refine my_at (by k_asm) (by k_mem) (by omega) (by omega) (by k_asm) ?_)))
  k_with "subscriptTail" => ((k_here; (with_reducible show wpAny _ _ (subscriptTail _ _ (Value.ref _) (Value.int _ _)) _ _ _); k_dflt (refine my_tail (by k_asm) (by k_mem) (by omega) (by omega) (by k_asm) ?_)))
  k_with "nn" => (first | exact List.forall_mem_nil _ | (refine' List.forall_mem_cons.mpr ⟨?q29a, ?q29b⟩; (case q29a => k_all); (case q29b => k_extra "nn")))
  k_with "hn" => (first | exact List.forall_mem_nil _ | (refine' List.forall_mem_cons.mpr ⟨?q30a, ?q30b⟩; (case q30a => k_extra "mem"); (case q30b => k_extra "hn")))
  k_with "my_enter2" => ((refine' code_foot ?q45k1 ?q45k2 ?q45k3 ?q45k4 ?q45k5 ?q45k6 ?q45k7 ?q45k8 _ ?q45kN ?_ ?q45c2 ?q45c3 ?q45c4 ?q45c5; (case q45k1 => k_asm); (case q45k2 => k_asm); (case q45k3 => k_asm); (case q45k4 => k_is); (case q45k5 => k_is); (case q45k6 => k_room); (case q45k7 => first | exact BindsTo.of_eq rfl | exact binds_K (by k_in) rfl (by k_is) rfl rfl rfl); (case q45k8 => exact locs rfl); (case q45kN => assumption); (case q45c2 => exact rfl); (case q45c3 => exact rfl); (case q45c4 => exact rfl); (case q45c5 => decide); (intro z9g' z9L' z9h' z9F' z9N' z9X' z9T' z9l1 z9hgk); (try k_lt z9l1); dsimp only; (show wpAny _ _ _ _ _ _); k_fold))
  k_with "ndn" => (first | exact List.forall_mem_nil _ | (refine' List.forall_mem_cons.mpr ⟨?q46a, ?q46b⟩; (case q46a => (refine neN ?_; (try dsimp only); omega)); (case q46b => k_extra "ndn")))
  k_with "ndl" => (first | exact ndl_nil | (refine' ndl_cons ?q47a ?q47b; (case q47a => k_extra "ndn"); (case q47b => k_extra "ndl")))
  trivial
end
theorem words21 : True := by
  k_with_none
  k_with "my_enter" => ((refine wpAny_call ?_; refine' code_foot ?q0k1 ?q0k2 ?q0k3 ?q0k4 ?q0k5 ?q0k6 ?q0k7 ?q0k8 _ ?q0kN ?_ ?q0c2 ?q0c3 ?q0c4 ?q0c5; (case q0k1 => k_asm); (case q0k2 => k_asm); (case q0k3 => k_asm); (case q0k4 => k_is); (case q0k5 => k_is); (case q0k6 => omega); (case q0k7 => first | exact BindsTo.of_eq rfl | exact binds_K (by k_in) rfl (by k_is) rfl rfl rfl); (case q0k8 => exact locs rfl); (case q0kN => assumption); (case q0c2 => exact rfl); (case q0c3 => exact rfl); (case q0c4 => exact rfl); (case q0c5 => decide); (intro z9g' z9L' z9h' z9F' z9N' z9X' z9T' z9l1 z9hgk); (try k_lt z9l1); dsimp only; (show wpAny _ _ _ _ _ _); k_fold))
  k_with "k_room" => (((try simp only [depth_under_make, depth_under_kw, depth_in1, depth_deeper]); omega))
  k_with "call builtin:dict.get" => ((k_here; k_dflt (first
  | refine kdg_get1 (knd := PySem.strKind _ _) (by k_asm) (by k_mem) (by k_asm) (by k_asm) (strKind_is _ _ _ _) _ (by first | k_asm | rfl) ?_
  | refine kdg_get2 (knd := PySem.strKind _ _) (by k_asm) (by k_mem) (by k_asm) (by k_asm) (strKind_is _ _ _ _) _ (by first | k_asm | rfl) ?_
  | refine kdg_get1 (knd := PySem.intKind _ _) (by k_asm) (by k_mem) (by k_asm) (by k_asm) (intKind_is _ _ _ _) _ (by first | k_asm | rfl) ?_
  | refine kdg_get2 (knd := PySem.intKind _ _) (by k_asm) (by k_mem) (by k_asm) (by k_asm) (intKind_is _ _ _ _) _ (by first | k_asm | rfl) ?_); (try dsimp only [Option.getD_some, Option.getD_none])))
  k_with "getMethod ref" => ((k_here; (with_reducible show wpAny _ _ (getMethod (Value.ref _) (Str.ofString "get") _) _ _ _); k_dflt (first
  | refine kdg_method (knd := PySem.strKind _ _) (by k_asm) (by k_mem) (by k_asm) ?_
  | refine kdg_method (knd := PySem.intKind _ _) (by k_asm) (by k_mem) (by k_asm) ?_)))
  k_with "compareOp In int ref" => ((k_here; k_dflt (refine kda_in (knd := PySem.intKind _ _) (by k_asm) (by k_mem) (by k_asm) (by k_asm) (intKind_is _ _ _ _) _ (by rfl) ?_)))
  k_with "compareOp In str ref" => ((k_here; k_dflt (refine kda_in (knd := PySem.strKind _ _) (by k_asm) (by k_mem) (by k_asm) (by k_asm) (strKind_is _ _ _ _) _ (by rfl) ?_)))
  k_with "compareOp NotIn int ref" => ((k_here; k_dflt (refine kdg_notin (knd := PySem.intKind _ _) (by k_asm) (by k_mem) (by k_asm) (by k_asm) (intKind_is _ _ _ _) _ (by rfl) ?_)))
  k_with "compareOp NotIn str ref" => ((k_here; k_dflt (refine kdg_notin (knd := PySem.strKind _ _) (by k_asm) (by k_mem) (by k_asm) (by k_asm) (strKind_is _ _ _ _) _ (by rfl) ?_)))
  k_with "nd1" => (first | (refine NdGoal.left ?_; k_mem) | (refine NdGoal.right ?_; k_mem) | (refine NdGoal.tail ?_; k_extra "nd1"))
  k_with "nd" => (first | assumption | exact Ne.symm (by assumption) | (refine' nd_start ?q10ND ?_; (case q10ND => assumption); k_extra "nd1"))
  k_with "k_ne" => ((refine neN ?_; (try dsimp only); k_extra "nd"))
  k_with "setItem ref int" => ((k_here; k_dflt (refine' kda_set (knd := PySem.intKind _ _) ?q12F ?q12N ?q12U ?q12d (intKind_is _ _ _ _) ?q12z ?_; (case q12F => k_asm); (case q12N => k_asm); (case q12U => k_updF); (case q12d => k_asm); (case q12z => rw [sizeLine_eq]; omega)); intro z9h' z9o' z9F' z9N' z9hd'; (try dsimp only at z9N'); (try k_sweep)))
  k_with "setItem ref str" => ((k_here; k_dflt (refine' kda_set (knd := PySem.strKind _ _) ?q13F ?q13N ?q13U ?q13d (strKind_is _ _ _ _) ?q13z ?_; (case q13F => k_asm); (case q13N => k_asm); (case q13U => k_updF); (case q13d => k_asm); (case q13z => rw [sizeLine_eq]; omega)); intro z9h' z9o' z9F' z9N' z9hd'; (try dsimp only at z9N'); (try k_sweep)))
  k_with "mem" => (first | exact List.Mem.head _ | (refine List.Mem.tail _ ?_; k_extra "mem"))
  k_with "sub_but" => ((refine' List.forall_mem_cons.mpr ⟨?q15a, ?q15b⟩; (case q15a => (intro z9hne; first | exact absurd rfl z9hne | k_extra "mem")); (case q15b => first | exact List.forall_mem_nil _ | k_extra "sub_but")))
  k_with "chg" => (first | exact Chg.head | (refine' Chg.tail ?q16c; (case q16c => k_extra "chg")))
  k_with "sub" => (first | exact (fun _ z9hp => z9hp) | (intro z9p z9hp; refine List.mem_cons_of_mem _ ?_; revert z9p; k_extra "sub"))
  k_with "call builtin:dict.pop" => ((k_here; k_dflt (first
  | (refine' my_pop1 (knd := PySem.intKind _ _) ?q18F ?q18N ?q18U ?q18d (intKind_is _ _ _ _) ?q18p ?q18l ?q18z ?_; (case q18F => k_asm); (case q18N => k_asm); (case q18U => k_updF); (case q18d => k_asm); (case q18p => rfl); (case q18l => k_asm); (case q18z => rw [sizeLine_eq]; omega); intro z9h' z9o' z9v' z9F' z9N' z9hd')
  | (refine' my_pop2 (knd := PySem.strKind _ _) ?q18F ?q18N ?q18U ?q18d ?q18lo (strKind_is _ _ _ _) ?q18p ?q18z ?_; (case q18F => k_asm); (case q18N => k_asm); (case q18U => k_updF); (case q18d => k_asm); (case q18lo => k_asm); (case q18p => rfl); (case q18z => rw [sizeLine_eq]; omega); intro z9h' z9o' z9v' z9tk' z9F' z9N' z9hd')); (try dsimp only at z9N'); (try k_sweep)))
  k_with "sub_but2" => ((refine' List.forall_mem_cons.mpr ⟨?q19a, ?q19b⟩; (case q19a => (intro z9hne z9hne2; first | exact absurd rfl z9hne | exact absurd rfl z9hne2 | k_extra "mem")); (case q19b => first | exact List.forall_mem_nil _ | k_extra "sub_but2")))
  trivial
section
theorem words22 : True := by
  k_with "subl" => (first | exact List.nil_sublist _ | (refine List.Sublist.cons_cons _ ?_; k_extra "subl") | (refine List.Sublist.cons _ ?_; k_extra "subl"))
  k_with "sublist" => ((refine' List.Nodup.sublist ?_ ?q21n; (case q21n => assumption); k_extra "subl"))
  k_with "getItem ref int" => ((k_here; k_dflt (refine my_item (knd := PySem.intKind _ _) (by k_asm) (by k_mem) (by k_asm) (intKind_is _ _ _ _) (by k_asm) ?_)))
  k_with "getItem ref str" => ((k_here; k_dflt (refine my_item (knd := PySem.strKind _ _) (by k_asm) (by k_mem) (by k_asm) (strKind_is _ _ _ _) (by first | k_asm | rfl) ?_)))
  k_with "call ref" => ((k_here; (with_reducible show wpAny _ _ (call (Value.ref 390) _) _ _ _); k_dflt (refine' is_local_c ?q24F ?q24N ?q24X ?q24T ?q24r ?q24m1 ?q24m2 ?q24m3 ?q24lo ?q24hd ?_; (case q24F => k_asm); (case q24N => k_asm); (case q24X => k_asm); (case q24T => k_asm); (case q24r => k_room); (case q24m1 => k_mem); (case q24m2 => k_mem); (case q24m3 => k_mem); (case q24lo => k_asm); (case q24hd => k_asm); k_whole); (intro z9h' z9tk' z9F' z9N'); (try k_sweep)))
  k_with "call ref" => ((k_here; (with_reducible show wpAny _ _ (call (Value.ref 327) _) _ _ _); k_dflt (refine' default_value_c ?q24F ?q24N ?q24X ?q24T ?q24r ?q24m1 ?q24m2 ?q24m3 ?q24lo ?q24hd ?_; (case q24F => k_asm); (case q24N => k_asm); (case q24X => k_asm); (case q24T => k_asm); (case q24r => k_room); (case q24m1 => k_mem); (case q24m2 => k_mem); (case q24m3 => k_mem); (case q24lo => k_asm); (case q24hd => k_asm); k_whole); (intro z9h' z9tk' z9F' z9N'); (try k_sweep)))
  k_with "call ref" => ((k_here; (with_reducible show wpAny _ _ (call (Value.ref 355) _) _ _ _); k_dflt (refine' is_automatic_c ?q24F ?q24N ?q24X ?q24T ?q24r ?q24m1 ?q24m2 ?q24m3 ?q24lo ?q24hd ?_; (case q24F => k_asm); (case q24N => k_asm); (case q24X => k_asm); (case q24T => k_asm); (case q24r => k_room); (case q24m1 => k_mem); (case q24m2 => k_mem); (case q24m3 => k_mem); (case q24lo => k_asm); (case q24hd => k_asm); k_whole); (intro z9h' z9tk' z9F' z9N'); (try k_sweep)))
  k_with "call ref" => ((k_here; (with_reducible show wpAny _ _ (call (Value.ref 166) _) _ _ _); k_dflt (refine' function_of_c ?q24F ?q24N ?q24X ?q24T ?q24r ?q24m1 ?q24m2 ?q24m3 ?q24m4 ?q24m5 ?q24lo ?q24hd ?q24hx ?_; (case q24F => k_asm); (case q24N => k_asm); (case q24X => k_asm); (case q24T => k_asm); (case q24r => k_room); (case q24m1 => k_mem); (case q24m2 => k_mem); (case q24m3 => k_mem); (case q24m4 => k_mem); (case q24m5 => k_mem); (case q24lo => k_asm); (case q24hd => k_asm); (case q24hx => (first | with_reducible assumption | rfl)); k_whole); (intro z9h' z9tk' z9F' z9N'); (try k_sweep)))
  k_with "call ref" => ((k_here; (with_reducible show wpAny _ _ (call (Value.ref 334) _) _ _ _); k_dflt (refine' set_default_c ?q24F ?q24N ?q24X ?q24T ?q24r ?q24m1 ?q24m2 ?q24m3 ?q24nd ?q24hd ?q24hz ?_; (case q24F => k_asm); (case q24N => k_asm); (case q24X => k_asm); (case q24T => k_asm); (case q24r => k_room); (case q24m1 => k_mem); (case q24m2 => k_mem); (case q24m3 => k_mem); (case q24nd => (k_extra "sublist")); (case q24hd => k_asm); (case q24hz => omega); k_whole); (intro z9h' z9tk' z9o' z9F' z9ho' z9hd' z9B'); (have z9cN := chg_news (by assumption) (by assumption) (by k_extra "sub") z9B' z9ho' (by k_extra "chg")); (obtain ⟨z9N', z9ND'⟩ := z9cN); (try k_sweep)))
  k_with "call ref" => ((k_here; (with_reducible show wpAny _ _ (call (Value.ref 404) _) _ _ _); k_dflt (refine' make_local_there ?q24F ?q24N ?q24X ?q24T ?q24r ?q24m1 ?q24m2 ?q24m3 ?q24lo ?q24hd ?q24hk ?_; (case q24F => k_asm); (case q24N => k_asm); (case q24X => k_asm); (case q24T => k_asm); (case q24r => k_room); (case q24m1 => k_mem); (case q24m2 => k_mem); (case q24m3 => k_mem); (case q24lo => k_asm); (case q24hd => k_asm); (case q24hk => (with_reducible assumption)); k_whole); (intro z9h' z9tk' z9F' z9N'); (try k_sweep)))
  k_with "call ref" => ((k_here; (with_reducible show wpAny _ _ (call (Value.ref 411) _) _ _ _); k_dflt (refine' kill_c ?q24F ?q24N ?q24X ?q24T ?q24r ?q24m1 ?q24m2 ?q24m3 ?q24nd ?q24lo ?q24hd ?q24hz ?_; (case q24F => k_asm); (case q24N => k_asm); (case q24X => k_asm); (case q24T => k_asm); (case q24r => k_room); (case q24m1 => k_mem); (case q24m2 => k_mem); (case q24m3 => k_mem); (case q24nd => (k_extra "sublist")); (case q24lo => k_asm); (case q24hd => k_asm); (case q24hz => omega); k_whole); (intro z9h' z9tk' z9o' z9F' z9ho' z9hd' z9B'); (have z9cN := chg_news (by assumption) (by assumption) (by k_extra "sub") z9B' z9ho' (by k_extra "chg")); (obtain ⟨z9N', z9ND'⟩ := z9cN); (try k_sweep)))
  trivial
def CE (P : Params) (c : WA) (m : WM) : List (Addr × Obj) := coreE P c m ++ symL P m.syms
theorem join_rest {h₀ h h' : Heap} {L : Addr} {A A' R : List (Addr × Obj)} (N : News h₀ L h (A ++ R)) (ND : ((A ++ R).map Prod.fst).Nodup) (N' : News h₀ L h' A') (ND' : (A'.map Prod.fst).Nodup)
    (K : Keep h h' A) (W : NewK h A A') : News h₀ L h' (A' ++ R) ∧ ((A' ++ R).map Prod.fst).Nodup := by
  rw [List.map_append] at ND
  have off : ∀ q ∈ R, ∀ p ∈ A, p.1 ≠ q.1 := fun q hq p hp => (List.nodup_append.mp ND).2.2 _ (List.mem_map_of_mem hp) _ (List.mem_map_of_mem hq)
  have inR : ∀ q ∈ R, h.get? q.1 = some q.2 := fun q hq => (N q (List.mem_append_right _ hq)).1
  refine ⟨fun p hp => ?_, ?_⟩
  · rcases List.mem_append.mp hp with q | q
    · exact N' p q
    · exact ⟨K _ _ (off p q) (inR p q), (N p (List.mem_append_right _ q)).2⟩
  · rw [List.map_append]
    refine List.nodup_append.mpr ⟨ND', (List.nodup_append.mp ND).2.1, fun a ha b hb => ?_⟩
    obtain ⟨p, hp, rfl⟩ := List.mem_map.mp ha
    obtain ⟨q, hq, rfl⟩ := List.mem_map.mp hb
    rcases W p hp with ⟨z, hz, e⟩ | e
    · rw [← e]; exact off q hq z hz
    · intro e2
      rw [e2, inR q hq] at e; cases e
theorem nd_perm {l l' : List (Addr × Obj)} (p : l.Perm l') (ND : (l.map Prod.fst).Nodup) : (l'.map Prod.fst).Nodup := (p.map Prod.fst).nodup_iff.mp ND
theorem news_perm {h₀ h : Heap} {L : Addr} {l l' : List (Addr × Obj)} (p : l.Perm l') (N : News h₀ L h l) : News h₀ L h l' := fun q hq => N q (p.mem_iff.mpr hq)
theorem pull_perm {A B C : List (Addr × Obj)} : (A ++ (B ++ C)).Perm (B ++ (A ++ C)) := by
  rw [← List.append_assoc, ← List.append_assoc]
  exact List.Perm.append_right _ List.perm_append_comm
section
variable {prog : Program} {w : World} {A : Around} {E : Value → Shared → Prop} {s : Shared} {env : Env} {h₀ : Heap} {x : PySem.Str} {body : List Stmt} {Q : Flow → Shared → Prop}
theorem range_inv {I : Addr} {a : Int} {n : Nat} (J : Nat → (PySem.Str → Option Value) → List (Addr × Obj) → Prop)
    (step : ∀ i fm news h tk t o, J i fm news → i < n → Fr h₀ env.locals h (fun y => if y = x then some (.int (a + (i : Int)) t) else fm y) → News h₀ env.locals h ((I, o) :: news) →
      wpAny (model prog w) A (execs body env) (UnrPost h₀ env.locals { s with heap := h, toks := tk } I o (fun m' n' => J (i + 1) m' n') Q) E { s with heap := h, toks := tk })
    (fin : ∀ fm news h tk, J n fm news → Fr h₀ env.locals h fm → News h₀ env.locals h news → Q .next { s with heap := h, toks := tk }) :
    ∀ k i fm news, i + k = n → J i fm news → RangeRest prog w A E h₀ env x body Q s I a n k i fm news := by
  intro k
  induction k with
  | zero =>
    intro i fm news e j
    have e' : i = n := by omega
    subst e'
    exact fun h tk F N => fin fm news h tk j F N
  | succ k ih =>
    intro i fm news e j t h tk F N
    refine wpAny_mono (step i fm news h tk t _ j (by omega) F N) (fun f s₃ h₃ => ?_) fun _ _ e => e
    cases f with
    | ret v => exact h₃
    | brk => exact h₃
    | next =>
      obtain ⟨h', tk', m', news', e1, F', N', o', j'⟩ := h₃
      exact ⟨h', tk', m', news', e1, F', N', o', ih (i + 1) m' news' (by omega) j'⟩
    | cont =>
      obtain ⟨h', tk', m', news', e1, F', N', o', j'⟩ := h₃
      exact ⟨h', tk', m', news', e1, F', N', o', ih (i + 1) m' news' (by omega) j'⟩
end
theorem unr_end {h₀ h' : Heap} {L I : Addr} {it : Obj} {rest : (PySem.Str → Option Value) → List (Addr × Obj) → Prop} {s₁ : Shared} {tk : Nat} {m' : PySem.Str → Option Value} {news' : List (Addr × Obj)} (F : Fr h₀ L h' m') (N : News h₀ L h' ((I, it) :: news'))
    (ND : (((I, it) :: news').map Prod.fst).Nodup) (r : rest m' news') : UnrEnd h₀ L s₁ I it rest { s₁ with heap := h', toks := tk } :=
  ⟨h', tk, m', news', rfl, F, N, fun p hp e => (List.nodup_cons.mp ND).1 (by have q := List.mem_map_of_mem (f := Prod.fst) hp; rw [e] at q; exact q), r⟩
theorem mem_ce {P : Params} {c : WA} {m : WM} {R : List (Addr × Obj)} {p : Addr × Obj} (h : p ∈ coreV P c m (rowsV m.syms)) : p ∈ (coreE P c m ++ symL P m.syms) ++ R := List.mem_append_left _ (List.mem_append_left _ h)
theorem mem_ce0 {P : Params} {c : WA} {m : WM} {p : Addr × Obj} (h : p ∈ coreV P c m (rowsV m.syms)) : p ∈ CE P c m := List.mem_append_left _ h
section
variable {w : World} {A : Around} {E : Value → Shared → Prop} {s : Shared} {L : Addr} {h₀ : Heap} {m mg mb : PySem.Str → Option Value}
  {R : List (Addr × Obj)} {p : Program} {loose : List PySem.Str}
theorem done_r (c : WA) (m' : WM) {P xs : Addr} {k0 sd : Int} {ta ts : Tok} {n1 n2 : Nat} {us : List Value} {ns : List Int} {Q : Value → Shared → Prop} {n : Nat}
   (F : Fr h₀ L s.heap m) (N : News h₀ L s.heap ((potL P xs k0 sd ta ts n1 n2 us ++ CE w.params c m') ++ R)) (X : (hd.heap_1 w.params).In h₀) (T : TopRead p loose mg mb h₀) (hr : A.depth + 10 < recursionLimit) (hA : A.handled = none)
   (ND : (List.map Prod.fst ((potL P xs k0 sd ta ts n1 n2 us ++ CE w.params c m') ++ R)).Nodup) (O : WOk w c) (I : MOk w c m') (Cp : Cap n m') (hn : n ≤ 500)
   (hI : IntsAre us ns) (hz : us.length ≤ 1000) (h0 : 0 ≤ k0) (h1 : k0 ≤ 900) (s0 : 0 ≤ sd) (s1 : sd ≤ 70000)
   (h : ∀ h' tk' m2 n1' k1 sd' ta' ts', Fr h₀ L h' m → News h₀ L h' ((potL P xs k1 sd' ta' ts' n1' n2 us ++ CE w.params c m2) ++ R) →
     (List.map Prod.fst ((potL P xs k1 sd' ta' ts' n1' n2 us ++ CE w.params c m2) ++ R)).Nodup → MOk w c m2 → Cap (n + 2) m2 → k0 ≤ k1 → k1 ≤ k0 + 3 → 0 ≤ sd' → sd' ≤ 70000 → Q (.bool true) { s with heap := h', toks := tk' }) :
   wpAny (model PySem.Challenge.rw_ok0067_01.row.prog w) A (call (.ref 786) [.ref P, .ref c.W, .ref c.bl, .ref c.H]) Q E s :=
  done_c c m' F (news_sub N fun q hq => List.mem_append_left _ hq) X T hr hA (by rw [List.map_append] at ND; exact (List.nodup_append.mp ND).1) O I Cp hn hI hz h0 h1 s0 s1
    fun h' tk' m2 n1' k1 sd' ta' ts' F' N' ND' I' C' a b d e K W =>
      have j := join_rest N ND N' ND' K W
      h h' tk' m2 n1' k1 sd' ta' ts' F' j.1 j.2 I' C' a b d e
theorem is_r (c : WA) (m' : WM) {Q : Value → Shared → Prop} {n : Nat}
   (F : Fr h₀ L s.heap m) (N : News h₀ L s.heap (CE w.params c m' ++ R)) (X : (hd.heap_1 w.params).In h₀) (T : TopRead p loose mg mb h₀) (hr : A.depth + 10 < recursionLimit) (hA : A.handled = none)
   (ND : (List.map Prod.fst (CE w.params c m' ++ R)).Nodup) (O : WOk w c) (I : MOk w c m') (Cp : Cap n m') (hn : n ≤ 500)
   (h : ∀ h' tk' m2, Fr h₀ L h' m → News h₀ L h' (CE w.params c m2 ++ R) → (List.map Prod.fst (CE w.params c m2 ++ R)).Nodup → MOk w c m2 → Cap (n + 3) m2 → Q (.bool true) { s with heap := h', toks := tk' }) :
   wpAny (model PySem.Challenge.rw_ok0067_01.row.prog w) A (call (.ref 793) [.ref c.W, .ref c.H, .ref c.Kn]) Q E s :=
  is_as_c c m' F (news_sub N fun q hq => List.mem_append_left _ hq) X T hr hA (by rw [List.map_append] at ND; exact (List.nodup_append.mp ND).1) O I Cp hn
    fun h' tk' m2 F' N' ND' I' C' K W =>
      have j := join_rest N ND N' ND' K W
      h h' tk' m2 F' j.1 j.2 I' C'
theorem sym_r (c : WA) (m' : WM) {nm : PySem.Str} {t : Tok} {Q : Value → Shared → Prop} {n : Nat}
   (F : Fr h₀ L s.heap m) (N : News h₀ L s.heap (CE w.params c m' ++ R)) (X : (hd.heap_1 w.params).In h₀) (T : TopRead p loose mg mb h₀) (hr : A.depth + 10 < recursionLimit)
   (ND : (List.map Prod.fst (CE w.params c m' ++ R)).Nodup) (O : WOk w c) (I : MOk w c m') (Cp : Cap n m') (hn : n ≤ 500) (g1 : nm ≠ "nil") (g2 : nm ≠ "t")
   (h : ∀ h' tk' m2 y, Fr h₀ L h' m → News h₀ L h' (CE w.params c m2 ++ R) → (List.map Prod.fst (CE w.params c m2 ++ R)).Nodup → MOk w c m2 → Cap (n + 1) m2 → y ∈ m2.syms → Q (.ref y.a) { s with heap := h', toks := tk' }) :
   wpAny (model PySem.Challenge.rw_ok0067_01.row.prog w) A (call (.ref 460) [.ref c.W, .str nm t]) Q E s := by
  have M1 : (c.W, instObj 484 c.dW) ∈ CE w.params c m' ++ R := mem_ce (by unfold coreV; k_extra "mem")
  have M2 : (c.dW, worldO w.params c.u1 c.u2 c.u3 c.u4 c.u5 c.u6 c.u7 c.ob c.ce c.va c.ba (curV c m'.cur) m'.lm m'.lt) ∈ CE w.params c m' ++ R := mem_ce (by unfold coreV; k_extra "mem")
  have M3 : (c.ob, instObj 302 c.dob) ∈ CE w.params c m' ++ R := mem_ce (by unfold coreV; k_extra "mem")
  have M4 : (c.dob, obO w.params c.o1 c.o2 c.rw c.nm) ∈ CE w.params c m' ++ R := mem_ce (by unfold coreV; k_extra "mem")
  have M5 : (c.rw, listOf (rowsV m'.syms).toArray m'.rn) ∈ CE w.params c m' ++ R := mem_ce (by unfold coreV; k_extra "mem")
  have M6 : (c.nm, m'.nmO) ∈ CE w.params c m' ++ R := mem_ce (by unfold coreV; k_extra "mem")
  rcases find_sy m'.syms nm with ⟨y, hy, rfl⟩ | hnew
  · exact symbol_old F N X T (by omega) M1 M2 M3 M4 M6 O.s1 I.nm (namesK_at I.sy hy) fun h' tk' F' N' => h h' tk' m' y F' N' ND I (Cp.mono (Nat.le_succ _)) hy
  · have r1 : (rowsV m'.syms).length ≤ 1000 := by have := Cp.sy; rw [rowsV_length]; omega
    have r2 : (namesK m'.syms).length ≤ 1000 := by have := Cp.sy; rw [namesK_length]; omega
    have NDs : (List.map Prod.fst (CE w.params c m')).Nodup := by rw [List.map_append] at ND; exact (List.nodup_append.mp ND).1
    have ND3 := NDs
    simp only [CE, coreE, coreV, List.cons_append, List.nil_append, List.map_cons] at ND3
    refine symbol_new F N X T (by omega) M1 M2 M3 M4 M5 M6 (by k_extra "sublist") O.s1 I.nm (namesK_none hnew g1 g2) r1 r2 ?_
    intro h9 tk9 o9 y F' ho' ho2' hd9 B' W' hyk hyn
    have ND4 := NDs
    simp only [CE, coreE, coreV, List.cons_append, List.nil_append] at ND4
    obtain ⟨N10, ND10⟩ := chg2_sy F ND4 (news_sub N fun q hq => List.mem_append_left _ hq) (fun p hp => hp) B' ho' ho2' (by k_extra "chg") (by k_extra "chg") W'
    subst hyn
    have e : coreE w.params c { m' with nmO := o9, rn := m'.rn + 1, syms := m'.syms ++ [y] } = coreV w.params c { m' with nmO := o9, rn := m'.rn + 1, syms := m'.syms ++ [y] } (rowsV m'.syms ++ [Value.ref y.a]) := by
      rw [coreE, rowsV_grow]
    have K : Keep s.heap h9 (CE w.params c m') := fun a o hne ho => B' a o (fun q => hne _ (mem_ce0 (p := (c.rw, listOf (rowsV m'.syms).toArray m'.rn)) (by unfold coreV; k_extra "mem")) q.symm) (fun q => hne _ (mem_ce0 (p := (c.nm, m'.nmO)) (by unfold coreV; k_extra "mem")) q.symm) ho
    have G : ∀ p ∈ CE w.params c { m' with nmO := o9, rn := m'.rn + 1, syms := m'.syms ++ [y] }, p ∈ (y.a, instObj 58 y.da) :: (y.da, symO w.params y.t1 y.t2 y.k y.tn y.name y.tm) :: (coreV w.params c { m' with nmO := o9, rn := m'.rn + 1, syms := m'.syms ++ [y] } (rowsV m'.syms ++ [Value.ref y.a]) ++ symL w.params m'.syms) := by
      unfold CE
      rw [e]
      exact mem_grow
    have ND11 : ((CE w.params c { m' with nmO := o9, rn := m'.rn + 1, syms := m'.syms ++ [y] }).map Prod.fst).Nodup := by
      unfold CE
      rw [e]
      exact nd_grow (A := coreV w.params c { m' with nmO := o9, rn := m'.rn + 1, syms := m'.syms ++ [y] } (rowsV m'.syms ++ [Value.ref y.a])) rfl ND10
    have W : NewK s.heap (CE w.params c m') (CE w.params c { m' with nmO := o9, rn := m'.rn + 1, syms := m'.syms ++ [y] }) := fun p hp => by
      rcases List.mem_cons.mp (G p hp) with rfl | q
      · exact .inr (W' _ (.head _)).2
      · rcases List.mem_cons.mp q with rfl | q
        · exact .inr (W' _ (.tail _ (.head _))).2
        · have q2 : p.1 ∈ (CE w.params c m').map Prod.fst := by
            have q3 := List.mem_map_of_mem (f := Prod.fst) q
            exact q3
          obtain ⟨z, hz, e2⟩ := List.mem_map.mp q2
          exact .inl ⟨z, hz, e2⟩
    have j := join_rest N ND (news_sub N10 G) ND11 K W
    exact h h9 tk9 _ y F' j.1 j.2 (I.grow (r := m'.rn + 1) hd9 hyk hnew g1 g2) (Cp.grow (o := o9) (y := y) (r := m'.rn + 1) (Nat.lt_succ_self n)) (List.mem_append_right _ (List.mem_singleton.mpr rfl))
end
theorem permD0 {q : Addr × Obj} {Z Y C0 C1 : List (Addr × Obj)} : (q :: (Z ++ (Y ++ (C0 ++ C1)))).Perm ((Z ++ C0) ++ (q :: (Y ++ C1))) := by
  refine List.Perm.trans (List.Perm.cons q ?_) List.perm_middle.symm
  rw [List.append_assoc]
  exact List.Perm.append_left Z pull_perm
theorem permD1 {q : Addr × Obj} {Z Y C0 C1 : List (Addr × Obj)} : (q :: (Z ++ (Y ++ (C0 ++ C1)))).Perm ((Z ++ C1) ++ (q :: (Y ++ C0))) :=
  (List.Perm.cons q (List.Perm.append_left Z (List.Perm.append_left Y List.perm_append_comm))).trans permD0
theorem permI0 {Y C0 C1 : List (Addr × Obj)} : (Y ++ (C0 ++ C1)).Perm (C0 ++ (Y ++ C1)) := pull_perm
theorem permI1 {Y C0 C1 : List (Addr × Obj)} : (Y ++ (C0 ++ C1)).Perm (C1 ++ (Y ++ C0)) := (List.Perm.append_left Y List.perm_append_comm).trans pull_perm
section
variable {w : World} {A : Around} {E : Value → Shared → Prop} {s : Shared} {L : Addr} {h₀ : Heap} {m mg mb : PySem.Str → Option Value}
  {p : Program} {loose : List PySem.Str} {q q2 a1 a2 a3 a4 a5 a6 : Addr × Obj}
theorem done_0 {c c1 : WA} {m0 m1 : WM} {P xs : Addr} {k0 sd : Int} {ta ts : Tok} {n1 n2 : Nat} {us : List Value} {ns : List Int} {Q : Value → Shared → Prop} {n : Nat}
   (F : Fr h₀ L s.heap m) (N : News h₀ L s.heap (q :: (P, listOf [Value.ref xs, .int k0 ta, .int sd ts].toArray n1) :: (xs, listOf us.toArray n2) :: a1 :: a2 :: a3 :: a4 :: (CE w.params c m0 ++ CE w.params c1 m1))) (X : (hd.heap_1 w.params).In h₀) (T : TopRead p loose mg mb h₀) (hr : A.depth + 10 < recursionLimit) (hA : A.handled = none)
   (ND : (List.map Prod.fst (q :: (P, listOf [Value.ref xs, .int k0 ta, .int sd ts].toArray n1) :: (xs, listOf us.toArray n2) :: a1 :: a2 :: a3 :: a4 :: (CE w.params c m0 ++ CE w.params c1 m1))).Nodup) (O : WOk w c) (I : MOk w c m0) (Cp : Cap n m0) (hn : n ≤ 500)
   (hI : IntsAre us ns) (hz : us.length ≤ 1000) (h0 : 0 ≤ k0) (h1 : k0 ≤ 900) (s0 : 0 ≤ sd) (s1 : sd ≤ 70000)
   (h : ∀ h' tk' m2 n1' k1 sd' ta' ts', Fr h₀ L h' m → News h₀ L h' (q :: (P, listOf [Value.ref xs, .int k1 ta', .int sd' ts'].toArray n1') :: (xs, listOf us.toArray n2) :: a1 :: a2 :: a3 :: a4 :: (CE w.params c m2 ++ CE w.params c1 m1)) →
     (List.map Prod.fst (q :: (P, listOf [Value.ref xs, .int k1 ta', .int sd' ts'].toArray n1') :: (xs, listOf us.toArray n2) :: a1 :: a2 :: a3 :: a4 :: (CE w.params c m2 ++ CE w.params c1 m1))).Nodup → MOk w c m2 → Cap (n + 2) m2 → k0 ≤ k1 → k1 ≤ k0 + 3 → 0 ≤ sd' → sd' ≤ 70000 → Q (.bool true) { s with heap := h', toks := tk' }) :
   wpAny (model PySem.Challenge.rw_ok0067_01.row.prog w) A (call (.ref 786) [.ref P, .ref c.W, .ref c.bl, .ref c.H]) Q E s :=
  done_r (R := q :: ([a1, a2, a3, a4] ++ CE w.params c1 m1)) c m0 F (news_perm (permD0 (Z := potL P xs k0 sd ta ts n1 n2 us) (Y := [a1, a2, a3, a4])) N) X T hr hA (nd_perm (permD0 (Z := potL P xs k0 sd ta ts n1 n2 us) (Y := [a1, a2, a3, a4])) ND) O I Cp hn hI hz h0 h1 s0 s1
    fun h' tk' m2 n1' k1 sd' ta' ts' F' N' ND' => h h' tk' m2 n1' k1 sd' ta' ts' F' (news_perm (permD0 (Z := potL P xs k1 sd' ta' ts' n1' n2 us) (Y := [a1, a2, a3, a4])).symm N') (nd_perm (permD0 (Z := potL P xs k1 sd' ta' ts' n1' n2 us) (Y := [a1, a2, a3, a4])).symm ND')
theorem done_1 {c c0 : WA} {m0 m1 : WM} {P xs : Addr} {k0 sd : Int} {ta ts : Tok} {n1 n2 : Nat} {us : List Value} {ns : List Int} {Q : Value → Shared → Prop} {n : Nat}
   (F : Fr h₀ L s.heap m) (N : News h₀ L s.heap (q :: (P, listOf [Value.ref xs, .int k0 ta, .int sd ts].toArray n1) :: (xs, listOf us.toArray n2) :: a1 :: a2 :: a3 :: a4 :: (CE w.params c0 m0 ++ CE w.params c m1))) (X : (hd.heap_1 w.params).In h₀) (T : TopRead p loose mg mb h₀) (hr : A.depth + 10 < recursionLimit) (hA : A.handled = none)
   (ND : (List.map Prod.fst (q :: (P, listOf [Value.ref xs, .int k0 ta, .int sd ts].toArray n1) :: (xs, listOf us.toArray n2) :: a1 :: a2 :: a3 :: a4 :: (CE w.params c0 m0 ++ CE w.params c m1))).Nodup) (O : WOk w c) (I : MOk w c m1) (Cp : Cap n m1) (hn : n ≤ 500)
   (hI : IntsAre us ns) (hz : us.length ≤ 1000) (h0 : 0 ≤ k0) (h1 : k0 ≤ 900) (s0 : 0 ≤ sd) (s1 : sd ≤ 70000)
   (h : ∀ h' tk' m2 n1' k1 sd' ta' ts', Fr h₀ L h' m → News h₀ L h' (q :: (P, listOf [Value.ref xs, .int k1 ta', .int sd' ts'].toArray n1') :: (xs, listOf us.toArray n2) :: a1 :: a2 :: a3 :: a4 :: (CE w.params c0 m0 ++ CE w.params c m2)) →
     (List.map Prod.fst (q :: (P, listOf [Value.ref xs, .int k1 ta', .int sd' ts'].toArray n1') :: (xs, listOf us.toArray n2) :: a1 :: a2 :: a3 :: a4 :: (CE w.params c0 m0 ++ CE w.params c m2))).Nodup → MOk w c m2 → Cap (n + 2) m2 → k0 ≤ k1 → k1 ≤ k0 + 3 → 0 ≤ sd' → sd' ≤ 70000 → Q (.bool true) { s with heap := h', toks := tk' }) :
   wpAny (model PySem.Challenge.rw_ok0067_01.row.prog w) A (call (.ref 786) [.ref P, .ref c.W, .ref c.bl, .ref c.H]) Q E s :=
  done_r (R := q :: ([a1, a2, a3, a4] ++ CE w.params c0 m0)) c m1 F (news_perm (permD1 (Z := potL P xs k0 sd ta ts n1 n2 us) (Y := [a1, a2, a3, a4])) N) X T hr hA (nd_perm (permD1 (Z := potL P xs k0 sd ta ts n1 n2 us) (Y := [a1, a2, a3, a4])) ND) O I Cp hn hI hz h0 h1 s0 s1
    fun h' tk' m2 n1' k1 sd' ta' ts' F' N' ND' => h h' tk' m2 n1' k1 sd' ta' ts' F' (news_perm (permD1 (Z := potL P xs k1 sd' ta' ts' n1' n2 us) (Y := [a1, a2, a3, a4])).symm N') (nd_perm (permD1 (Z := potL P xs k1 sd' ta' ts' n1' n2 us) (Y := [a1, a2, a3, a4])).symm ND')
theorem is_0 {c c1 : WA} {m0 m1 : WM} {Q : Value → Shared → Prop} {n : Nat}
   (F : Fr h₀ L s.heap m) (N : News h₀ L s.heap (q :: q2 :: a1 :: a2 :: a3 :: a4 :: a5 :: a6 :: (CE w.params c m0 ++ CE w.params c1 m1))) (X : (hd.heap_1 w.params).In h₀) (T : TopRead p loose mg mb h₀) (hr : A.depth + 10 < recursionLimit) (hA : A.handled = none)
   (ND : (List.map Prod.fst (q :: q2 :: a1 :: a2 :: a3 :: a4 :: a5 :: a6 :: (CE w.params c m0 ++ CE w.params c1 m1))).Nodup) (O : WOk w c) (I : MOk w c m0) (Cp : Cap n m0) (hn : n ≤ 500)
   (h : ∀ h' tk' m2, Fr h₀ L h' m → News h₀ L h' (q :: q2 :: a1 :: a2 :: a3 :: a4 :: a5 :: a6 :: (CE w.params c m2 ++ CE w.params c1 m1)) → (List.map Prod.fst (q :: q2 :: a1 :: a2 :: a3 :: a4 :: a5 :: a6 :: (CE w.params c m2 ++ CE w.params c1 m1))).Nodup → MOk w c m2 → Cap (n + 3) m2 → Q (.bool true) { s with heap := h', toks := tk' }) :
   wpAny (model PySem.Challenge.rw_ok0067_01.row.prog w) A (call (.ref 793) [.ref c.W, .ref c.H, .ref c.Kn]) Q E s :=
  is_r (R := [q, q2, a1, a2, a3, a4, a5, a6] ++ CE w.params c1 m1) c m0 F (news_perm (permI0 (Y := [q, q2, a1, a2, a3, a4, a5, a6])) N) X T hr hA (nd_perm (permI0 (Y := [q, q2, a1, a2, a3, a4, a5, a6])) ND) O I Cp hn
    fun h' tk' m2 F' N' ND' => h h' tk' m2 F' (news_perm (permI0 (Y := [q, q2, a1, a2, a3, a4, a5, a6])).symm N') (nd_perm (permI0 (Y := [q, q2, a1, a2, a3, a4, a5, a6])).symm ND')
theorem is_1 {c c0 : WA} {m0 m1 : WM} {Q : Value → Shared → Prop} {n : Nat}
   (F : Fr h₀ L s.heap m) (N : News h₀ L s.heap (q :: q2 :: a1 :: a2 :: a3 :: a4 :: a5 :: a6 :: (CE w.params c0 m0 ++ CE w.params c m1))) (X : (hd.heap_1 w.params).In h₀) (T : TopRead p loose mg mb h₀) (hr : A.depth + 10 < recursionLimit) (hA : A.handled = none)
   (ND : (List.map Prod.fst (q :: q2 :: a1 :: a2 :: a3 :: a4 :: a5 :: a6 :: (CE w.params c0 m0 ++ CE w.params c m1))).Nodup) (O : WOk w c) (I : MOk w c m1) (Cp : Cap n m1) (hn : n ≤ 500)
   (h : ∀ h' tk' m2, Fr h₀ L h' m → News h₀ L h' (q :: q2 :: a1 :: a2 :: a3 :: a4 :: a5 :: a6 :: (CE w.params c0 m0 ++ CE w.params c m2)) → (List.map Prod.fst (q :: q2 :: a1 :: a2 :: a3 :: a4 :: a5 :: a6 :: (CE w.params c0 m0 ++ CE w.params c m2))).Nodup → MOk w c m2 → Cap (n + 3) m2 → Q (.bool true) { s with heap := h', toks := tk' }) :
   wpAny (model PySem.Challenge.rw_ok0067_01.row.prog w) A (call (.ref 793) [.ref c.W, .ref c.H, .ref c.Kn]) Q E s :=
  is_r (R := [q, q2, a1, a2, a3, a4, a5, a6] ++ CE w.params c0 m0) c m1 F (news_perm (permI1 (Y := [q, q2, a1, a2, a3, a4, a5, a6])) N) X T hr hA (nd_perm (permI1 (Y := [q, q2, a1, a2, a3, a4, a5, a6])) ND) O I Cp hn
    fun h' tk' m2 F' N' ND' => h h' tk' m2 F' (news_perm (permI1 (Y := [q, q2, a1, a2, a3, a4, a5, a6])).symm N') (nd_perm (permI1 (Y := [q, q2, a1, a2, a3, a4, a5, a6])).symm ND')
theorem sym_0 {c c1 : WA} {m0 m1 : WM} {nm : PySem.Str} {t : Tok} {Q : Value → Shared → Prop} {n : Nat}
   (F : Fr h₀ L s.heap m) (N : News h₀ L s.heap (a1 :: a2 :: a3 :: a4 :: a5 :: a6 :: (CE w.params c m0 ++ CE w.params c1 m1))) (X : (hd.heap_1 w.params).In h₀) (T : TopRead p loose mg mb h₀) (hr : A.depth + 10 < recursionLimit)
   (ND : (List.map Prod.fst (a1 :: a2 :: a3 :: a4 :: a5 :: a6 :: (CE w.params c m0 ++ CE w.params c1 m1))).Nodup) (O : WOk w c) (I : MOk w c m0) (Cp : Cap n m0) (hn : n ≤ 500) (g1 : nm ≠ "nil") (g2 : nm ≠ "t")
   (h : ∀ h' tk' m2 y, Fr h₀ L h' m → News h₀ L h' (a1 :: a2 :: a3 :: a4 :: a5 :: a6 :: (CE w.params c m2 ++ CE w.params c1 m1)) → (List.map Prod.fst (a1 :: a2 :: a3 :: a4 :: a5 :: a6 :: (CE w.params c m2 ++ CE w.params c1 m1))).Nodup → MOk w c m2 → Cap (n + 1) m2 → y ∈ m2.syms → Q (.ref y.a) { s with heap := h', toks := tk' }) :
   wpAny (model PySem.Challenge.rw_ok0067_01.row.prog w) A (call (.ref 460) [.ref c.W, .str nm t]) Q E s :=
  sym_r (R := [a1, a2, a3, a4, a5, a6] ++ CE w.params c1 m1) c m0 F (news_perm (permI0 (Y := [a1, a2, a3, a4, a5, a6])) N) X T hr (nd_perm (permI0 (Y := [a1, a2, a3, a4, a5, a6])) ND) O I Cp hn g1 g2
    fun h' tk' m2 y F' N' ND' => h h' tk' m2 y F' (news_perm (permI0 (Y := [a1, a2, a3, a4, a5, a6])).symm N') (nd_perm (permI0 (Y := [a1, a2, a3, a4, a5, a6])).symm ND')
theorem sym_1 {c c0 : WA} {m0 m1 : WM} {nm : PySem.Str} {t : Tok} {y0 : Sy} {Q : Value → Shared → Prop} {n : Nat}
   (F : Fr h₀ L s.heap m) (N : News h₀ L s.heap (a1 :: a2 :: a3 :: a4 :: a5 :: a6 :: (CE w.params c0 m0 ++ CE w.params c m1))) (X : (hd.heap_1 w.params).In h₀) (T : TopRead p loose mg mb h₀) (hr : A.depth + 10 < recursionLimit)
   (ND : (List.map Prod.fst (a1 :: a2 :: a3 :: a4 :: a5 :: a6 :: (CE w.params c0 m0 ++ CE w.params c m1))).Nodup) (O : WOk w c) (I : MOk w c m1) (Cp : Cap n m1) (hn : n ≤ 500) (g1 : nm ≠ "nil") (g2 : nm ≠ "t") (hy0 : y0 ∈ m0.syms)
   (h : ∀ h' tk' m2 (y : Sy), Fr h₀ L h' m → News h₀ L h' (a1 :: a2 :: a3 :: a4 :: a5 :: a6 :: (CE w.params c0 m0 ++ CE w.params c m2)) → (List.map Prod.fst (a1 :: a2 :: a3 :: a4 :: a5 :: a6 :: (CE w.params c0 m0 ++ CE w.params c m2))).Nodup → MOk w c m2 → Cap (n + 1) m2 → y ∈ m2.syms → y0.a ≠ y.a → Q (.ref y.a) { s with heap := h', toks := tk' }) :
   wpAny (model PySem.Challenge.rw_ok0067_01.row.prog w) A (call (.ref 460) [.ref c.W, .str nm t]) Q E s :=
  sym_r (R := [a1, a2, a3, a4, a5, a6] ++ CE w.params c0 m0) c m1 F (news_perm (permI1 (Y := [a1, a2, a3, a4, a5, a6])) N) X T hr (nd_perm (permI1 (Y := [a1, a2, a3, a4, a5, a6])) ND) O I Cp hn g1 g2
    fun h' tk' m2 y F' N' ND' I' C' hy =>
      have nd2 := nd_perm (permI1 (Y := [a1, a2, a3, a4, a5, a6])).symm ND'
      h h' tk' m2 y F' (news_perm (permI1 (Y := [a1, a2, a3, a4, a5, a6])).symm N') nd2 I' C' hy (by
        rw [List.map_append] at ND'
        have q1 : (y.a, instObj 58 y.da) ∈ CE w.params c m2 := List.mem_append_right _ (symL_mem1 hy)
        have q2 : (y0.a, instObj 58 y0.da) ∈ [a1, a2, a3, a4, a5, a6] ++ CE w.params c0 m0 := List.mem_append_right _ (List.mem_append_right _ (symL_mem1 hy0))
        exact ((List.nodup_append.mp ND').2.2 _ (List.mem_map_of_mem (f := Prod.fst) q1) _ (List.mem_map_of_mem (f := Prod.fst) q2)).symm)
end
def Front (a : Addr) (l r : List Addr) : Prop := l.Perm (a :: r)
theorem Front.head {a : Addr} {r : List Addr} : Front a (a :: r) r := List.Perm.refl _
theorem Front.tail {a b : Addr} {l r : List Addr} (h : Front a l r) : Front a (b :: l) (b :: r) := (List.Perm.cons b h).trans (List.Perm.swap _ _ _)
def Sel (l K : List Addr) : Prop := ∃ K', K.Perm (l ++ K')
theorem Sel.nil {K : List Addr} : Sel [] K := ⟨K, List.Perm.refl _⟩
theorem Sel.cons {a : Addr} {l K K' : List Addr} (f : Front a K K') (h : Sel l K') : Sel (a :: l) K := by
  obtain ⟨K2, p⟩ := h
  exact ⟨K2, f.trans (List.Perm.cons a p)⟩
theorem Sel.nodup {l K : List Addr} (h : Sel l K) (ND : K.Nodup) : l.Nodup := by
  obtain ⟨K2, p⟩ := h
  exact (List.nodup_append.mp (p.nodup_iff.mp ND)).1
theorem start_w {w : World} {l : List (Addr × Obj)} {W dW ob dob rw nm va dva df au ba dba bv lo dlo lv ce dce fn b1 d1 b2 d2 bl H hde hba how hfu Kn pe pl : Addr} {u1 u2 u3 u4 u5 u6 u7 o1 o2 c1 c2 v1 v2 v3 l1 l2 ct lt mt : Tok} {rn n1 n2 bn : Nat} {HO nmO dfO auO bvO lvO fnO hdO hbO hwO hfO KO : Obj} {es1 es2 : List DictEntry}
   (q_W : (W, instObj 484 dW) ∈ l) (q_dW : (dW, worldO w.params u1 u2 u3 u4 u5 u6 u7 ob ce va ba .none 0 lt) ∈ l) (q_ob : (ob, instObj 302 dob) ∈ l) (q_dob : (dob, obO w.params o1 o2 rw nm) ∈ l) (q_rw : (rw, listOf [Value.ref 64, .ref 67].toArray rn) ∈ l) (q_nm : (nm, nmO) ∈ l) (q_va : (va, instObj 365 dva) ∈ l) (q_dva : (dva, varsO w.params v1 v2 v3 df au pe) ∈ l) (q_df : (df, dfO) ∈ l) (q_au : (au, auO) ∈ l) (q_ba : (ba, instObj 421 dba) ∈ l) (q_dba : (dba, locO w.params l1 bv) ∈ l) (q_bv : (bv, bvO) ∈ l) (q_ce : (ce, instObj 225 dce) ∈ l) (q_dce : (dce, cellsO w.params c1 c2 fn pl) ∈ l) (q_fn : (fn, fnO) ∈ l) (q_bl : (bl, listOf [Value.ref b1, Value.ref b2].toArray bn) ∈ l) (q_b1 : (b1, instObj 751 d1) ∈ l) (q_d1 : (d1, dictOf es1 n1) ∈ l) (q_b2 : (b2, instObj 751 d2) ∈ l) (q_d2 : (d2, dictOf es2 n2) ∈ l) (e1 : getL "locals" es1 = some (some .none)) (e2 : getL "locals" es2 = some (some (.ref lo))) (q_lo : (lo, instObj 421 dlo) ∈ l) (q_dlo : (dlo, locO w.params l2 lv) ∈ l) (q_lv : (lv, lvO) ∈ l) (q_H : (H, HO) ∈ l) (iH : HO.IsDictOf (PySem.strKind PySem.Challenge.rw_ok0067_01.row.prog w) [("current", .int 0 ct), ("default", .ref hde), ("bare", .ref hba), ("own", .ref how), ("functions", .ref hfu), ("markers", .int 0 mt)]) (q_hde : (hde, hdO) ∈ l) (q_hba : (hba, hbO) ∈ l) (q_how : (how, hwO) ∈ l) (q_hfu : (hfu, hfO) ∈ l) (q_Kn : (Kn, KO) ∈ l) (inm : nmO.IsDictOf (PySem.strKind PySem.Challenge.rw_ok0067_01.row.prog w) [("nil", .ref 64), ("t", .ref 67)]) (ifn : fnO.IsDictOf (PySem.intKind PySem.Challenge.rw_ok0067_01.row.prog w) []) (idf : dfO.IsDictOf (PySem.intKind PySem.Challenge.rw_ok0067_01.row.prog w) []) (iau : auO.IsDictOf (PySem.intKind PySem.Challenge.rw_ok0067_01.row.prog w) []) (ibv : bvO.IsDictOf (PySem.intKind PySem.Challenge.rw_ok0067_01.row.prog w) []) (ilv : lvO.IsDictOf (PySem.intKind PySem.Challenge.rw_ok0067_01.row.prog w) []) (ihd : hdO.IsDictOf (PySem.strKind PySem.Challenge.rw_ok0067_01.row.prog w) []) (ihb : hbO.IsDictOf (PySem.strKind PySem.Challenge.rw_ok0067_01.row.prog w) []) (ihw : hwO.IsDictOf (PySem.strKind PySem.Challenge.rw_ok0067_01.row.prog w) []) (ihf : hfO.IsDictOf (PySem.strKind PySem.Challenge.rw_ok0067_01.row.prog w) []) (iK : KO.IsDictOf (PySem.strKind PySem.Challenge.rw_ok0067_01.row.prog w) []) (s_nm : (nm == sysModules) = false) (s_fn : (fn == sysModules) = false) (s_df : (df == sysModules) = false) (s_au : (au == sysModules) = false) (s_bv : (bv == sysModules) = false) (s_lv : (lv == sysModules) = false) (s_H : (H == sysModules) = false) (s_hde : (hde == sysModules) = false) (s_hba : (hba == sysModules) = false) (s_how : (how == sysModules) = false) (s_hfu : (hfu == sysModules) = false) (s_Kn : (Kn == sysModules) = false) :
   ∃ c m, WOk w c ∧ MOk w c m ∧ Cap 0 m ∧ c.W = W ∧ c.H = H ∧ c.Kn = Kn ∧ c.bl = bl ∧ (∀ p ∈ CE w.params c m, p ∈ l) ∧ (CE w.params c m).map Prod.fst = [W, dW, H, ob, dob, rw, nm, va, dva, df, au, ba, dba, bv, lo, dlo, lv, ce, dce, fn, b1, d1, b2, d2, bl, hde, hba, how, hfu, Kn] := by
  refine ⟨⟨W, dW, ob, dob, rw, nm, va, dva, df, au, ba, dba, bv, lo, dlo, lv, ce, dce, fn, b1, d1, b2, d2, bl, H, hde, hba, how, hfu, Kn, pe, pl, u1, u2, u3, u4, u5, u6, u7, o1, o2, c1, c2, v1, v2, v3, l1, l2, es1, es2, n1, n2, bn, auO⟩, ⟨0, ct, 0, lt, mt, rn, nmO, fnO, dfO, bvO, lvO, HO, hdO, hbO, hwO, hfO, KO, [], [], [], [], [], [], [], [], [], []⟩, ⟨s_nm, s_fn, s_df, s_au, s_bv, s_lv, s_H, s_hde, s_hba, s_how, s_hfu, s_Kn, iau, e1, e2⟩, ⟨inm, ifn, idf, ibv, ilv, iH, ihd, ihb, ihw, ihf, iK, SymsOk.nil_, Rel.nil_, Rel.nil_, Rel.nil_, Rel.nil_, ?_, ?_, ?_, ?_, ?_, show (0 : Int) ≤ 0 from Int.le_refl 0, show (0 : Int) ≤ 2 by decide, show (0 : Int) ≤ 0 from Int.le_refl 0⟩, ⟨show (0 : Int) ≤ 0 from Int.le_refl 0, Nat.le_refl 0, Nat.le_refl 0, Nat.le_refl 0, Nat.le_refl 0, Nat.le_refl 0, Nat.le_refl 0, Nat.le_refl 0, Nat.le_refl 0, Nat.le_refl 0, Nat.le_refl 0⟩, rfl, rfl, rfl, rfl, ?_, rfl⟩
  · intro n v h; simp [valueAt] at h
  · intro n v h; simp [valueAt] at h
  · intro n v h; simp [valueAt] at h
  · intro n v h; simp [valueAt] at h
  · intro n v h; simp [valueAt] at h
  · have a : ∀ p ∈ coreV w.params ⟨W, dW, ob, dob, rw, nm, va, dva, df, au, ba, dba, bv, lo, dlo, lv, ce, dce, fn, b1, d1, b2, d2, bl, H, hde, hba, how, hfu, Kn, pe, pl, u1, u2, u3, u4, u5, u6, u7, o1, o2, c1, c2, v1, v2, v3, l1, l2, es1, es2, n1, n2, bn, auO⟩ ⟨0, ct, 0, lt, mt, rn, nmO, fnO, dfO, bvO, lvO, HO, hdO, hbO, hwO, hfO, KO, [], [], [], [], [], [], [], [], [], []⟩ (rowsV []), p ∈ l := by
      unfold coreV
      dsimp only [curV, rowsV]
      simp only [List.forall_mem_cons]
      exact ⟨q_W, q_dW, q_H, q_ob, q_dob, q_rw, q_nm, q_va, q_dva, q_df, q_au, q_ba, q_dba, q_bv, q_lo, q_dlo, q_lv, q_ce, q_dce, q_fn, q_b1, q_d1, q_b2, q_d2, q_bl, q_hde, q_hba, q_how, q_hfu, q_Kn, fun _ h => nomatch h⟩
    intro p hp
    rcases List.mem_append.mp hp with h | h
    · exact a p h
    · exact absurd h (by simp [symL])
end
theorem words23 : True := by
  k_with_none
  k_with "my_enter" => ((refine wpAny_call ?_; refine' code_foot ?q0k1 ?q0k2 ?q0k3 ?q0k4 ?q0k5 ?q0k6 ?q0k7 ?q0k8 _ ?q0kN ?_ ?q0c2 ?q0c3 ?q0c4 ?q0c5; (case q0k1 => k_asm); (case q0k2 => k_asm); (case q0k3 => k_asm); (case q0k4 => k_is); (case q0k5 => k_is); (case q0k6 => omega); (case q0k7 => first | exact BindsTo.of_eq rfl | exact binds_K (by k_in) rfl (by k_is) rfl rfl rfl); (case q0k8 => exact locs rfl); (case q0kN => assumption); (case q0c2 => exact rfl); (case q0c3 => exact rfl); (case q0c4 => exact rfl); (case q0c5 => decide); (intro z9g' z9L' z9h' z9F' z9N' z9X' z9T' z9l1 z9hgk); (try k_lt z9l1); dsimp only; (show wpAny _ _ _ _ _ _); k_fold))
  k_with "k_room" => (((try simp only [depth_under_make, depth_under_kw, depth_in1, depth_deeper]); omega))
  k_with "call builtin:dict.get" => ((k_here; k_dflt (first
  | refine kdg_get1 (knd := PySem.strKind _ _) (by k_asm) (by k_mem) (by k_asm) (by k_asm) (strKind_is _ _ _ _) _ (by first | k_asm | rfl) ?_
  | refine kdg_get2 (knd := PySem.strKind _ _) (by k_asm) (by k_mem) (by k_asm) (by k_asm) (strKind_is _ _ _ _) _ (by first | k_asm | rfl) ?_
  | refine kdg_get1 (knd := PySem.intKind _ _) (by k_asm) (by k_mem) (by k_asm) (by k_asm) (intKind_is _ _ _ _) _ (by first | k_asm | rfl) ?_
  | refine kdg_get2 (knd := PySem.intKind _ _) (by k_asm) (by k_mem) (by k_asm) (by k_asm) (intKind_is _ _ _ _) _ (by first | k_asm | rfl) ?_); (try dsimp only [Option.getD_some, Option.getD_none])))
  k_with "getMethod ref" => ((k_here; (with_reducible show wpAny _ _ (getMethod (Value.ref _) (Str.ofString "get") _) _ _ _); k_dflt (first
  | refine kdg_method (knd := PySem.strKind _ _) (by k_asm) (by k_mem) (by k_asm) ?_
  | refine kdg_method (knd := PySem.intKind _ _) (by k_asm) (by k_mem) (by k_asm) ?_)))
  k_with "compareOp In int ref" => ((k_here; k_dflt (refine kda_in (knd := PySem.intKind _ _) (by k_asm) (by k_mem) (by k_asm) (by k_asm) (intKind_is _ _ _ _) _ (by rfl) ?_)))
  k_with "compareOp In str ref" => ((k_here; k_dflt (refine kda_in (knd := PySem.strKind _ _) (by k_asm) (by k_mem) (by k_asm) (by k_asm) (strKind_is _ _ _ _) _ (by rfl) ?_)))
  k_with "compareOp NotIn int ref" => ((k_here; k_dflt (refine kdg_notin (knd := PySem.intKind _ _) (by k_asm) (by k_mem) (by k_asm) (by k_asm) (intKind_is _ _ _ _) _ (by rfl) ?_)))
  k_with "compareOp NotIn str ref" => ((k_here; k_dflt (refine kdg_notin (knd := PySem.strKind _ _) (by k_asm) (by k_mem) (by k_asm) (by k_asm) (strKind_is _ _ _ _) _ (by rfl) ?_)))
  k_with "nd1" => (first | (refine NdGoal.left ?_; k_mem) | (refine NdGoal.right ?_; k_mem) | (refine NdGoal.tail ?_; k_extra "nd1"))
  k_with "nd" => (first | assumption | exact Ne.symm (by assumption) | (refine' nd_start ?q10ND ?_; (case q10ND => assumption); k_extra "nd1"))
  k_with "k_ne" => ((refine neN ?_; (try dsimp only); k_extra "nd"))
  k_with "setItem ref int" => ((k_here; k_dflt (refine' kda_set (knd := PySem.intKind _ _) ?q12F ?q12N ?q12U ?q12d (intKind_is _ _ _ _) ?q12z ?_; (case q12F => k_asm); (case q12N => k_asm); (case q12U => k_updF); (case q12d => k_asm); (case q12z => rw [sizeLine_eq]; omega)); intro z9h' z9o' z9F' z9N' z9hd'; (try dsimp only at z9N'); (try k_sweep)))
  k_with "setItem ref str" => ((k_here; k_dflt (refine' kda_set (knd := PySem.strKind _ _) ?q13F ?q13N ?q13U ?q13d (strKind_is _ _ _ _) ?q13z ?_; (case q13F => k_asm); (case q13N => k_asm); (case q13U => k_updF); (case q13d => k_asm); (case q13z => rw [sizeLine_eq]; omega)); intro z9h' z9o' z9F' z9N' z9hd'; (try dsimp only at z9N'); (try k_sweep)))
  k_with "mem" => (first | exact List.Mem.head _ | (refine List.Mem.tail _ ?_; k_extra "mem"))
  k_with "sub_but" => ((refine' List.forall_mem_cons.mpr ⟨?q15a, ?q15b⟩; (case q15a => (intro z9hne; first | exact absurd rfl z9hne | k_extra "mem")); (case q15b => first | exact List.forall_mem_nil _ | k_extra "sub_but")))
  k_with "chg" => (first | exact Chg.head | (refine' Chg.tail ?q16c; (case q16c => k_extra "chg")))
  k_with "sub" => (first | exact (fun _ z9hp => z9hp) | (intro z9p z9hp; refine List.mem_cons_of_mem _ ?_; revert z9p; k_extra "sub"))
  k_with "call builtin:dict.pop" => ((k_here; k_dflt (first
  | (refine' my_pop1 (knd := PySem.intKind _ _) ?q18F ?q18N ?q18U ?q18d (intKind_is _ _ _ _) ?q18p ?q18l ?q18z ?_; (case q18F => k_asm); (case q18N => k_asm); (case q18U => k_updF); (case q18d => k_asm); (case q18p => rfl); (case q18l => k_asm); (case q18z => rw [sizeLine_eq]; omega); intro z9h' z9o' z9v' z9F' z9N' z9hd')
  | (refine' my_pop2 (knd := PySem.strKind _ _) ?q18F ?q18N ?q18U ?q18d ?q18lo (strKind_is _ _ _ _) ?q18p ?q18z ?_; (case q18F => k_asm); (case q18N => k_asm); (case q18U => k_updF); (case q18d => k_asm); (case q18lo => k_asm); (case q18p => rfl); (case q18z => rw [sizeLine_eq]; omega); intro z9h' z9o' z9v' z9tk' z9F' z9N' z9hd')); (try dsimp only at z9N'); (try k_sweep)))
  k_with "sub_but2" => ((refine' List.forall_mem_cons.mpr ⟨?q19a, ?q19b⟩; (case q19a => (intro z9hne z9hne2; first | exact absurd rfl z9hne | exact absurd rfl z9hne2 | k_extra "mem")); (case q19b => first | exact List.forall_mem_nil _ | k_extra "sub_but2")))
  trivial
section
theorem isList_keep {h₀ h : Heap} {L sc : Addr} {m : Str → Option Value} {a : Array Value} (F : Fr h₀ L h m) (hL : h₀.IsList sc a) : h.IsList sc a := by
  obtain ⟨o, h1, h2⟩ := hL
  exact ⟨o, F.keep _ _ h1, h2⟩
theorem keys6 : (["current", "default", "bare", "own", "functions", "markers"] : List Str).Nodup := by decide
theorem nd_front {g h : Heap} {L I : Addr} {o : Obj} {l : List (Addr × Obj)} {K : List Addr} (_N : News g L h ((I, o) :: l)) (ND : K.Nodup) (f : Front I K (l.map Prod.fst)) : (I :: l.map Prod.fst).Nodup := f.nodup_iff.mp ND
theorem nd_consG {I : Addr} {l : List (Addr × Obj)} (ND : (l.map Prod.fst).Nodup) (l1 : ∀ p ∈ l, p.1 < I) : (I :: l.map Prod.fst).Nodup :=
  List.nodup_cons.mpr ⟨fun q => by
    obtain ⟨p, hp, e⟩ := List.mem_map.mp q
    exact absurd (l1 p hp) (by rw [e]; exact Nat.lt_irrefl _), ND⟩
theorem putL_find2 (name : Str) (hsh : Int) (t : Tok) (v : Value) : ∀ es : List DictEntry, ∃ e, (putL name hsh (.str name t) v es).find? (·.key.isStr name) = some e ∧ e.val = v
  | [] => ⟨⟨hsh, .str name t, v⟩, by simp [putL, Value.isStr], rfl⟩
  | e :: r => by
    unfold putL
    by_cases h : e.key.isStr name = true
    · rw [if_pos h]
      exact ⟨⟨e.hash, e.key, v⟩, by simp [h], rfl⟩
    · rw [if_neg h]
      obtain ⟨e', h1, h2⟩ := putL_find2 name hsh t v r
      exact ⟨e', by rw [List.find?_cons_of_neg (by simpa using h)]; exact h1, h2⟩
theorem getL_putL (name : Str) (hsh : Int) (t : Tok) (v : Value) (es : List DictEntry) : getL name (putL name hsh (.str name t) v es) = some (some v) := by
  obtain ⟨e, h1, h2⟩ := putL_find2 name hsh t v es
  unfold getL
  rw [h1]
  exact congrArg (fun x => some (some x)) h2
theorem putL_len (name : Str) (hsh : Int) (key v : Value) : ∀ es : List DictEntry, (putL name hsh key v es).length ≤ es.length + 1
  | [] => by simp [putL]
  | e :: r => by
    unfold putL
    split
    · simp
    · have := putL_len name hsh key v r
      simp; omega
theorem upd_mk {d : Addr} {o o' : Obj} {post : List (Addr × Obj)} : ∀ pre : List (Addr × Obj), (∀ p ∈ pre, p.1 ≠ d) → (∀ p ∈ post, p.1 ≠ d) → Upd d o o' (pre ++ (d, o) :: post) (pre ++ (d, o') :: post)
  | [], _, b => .head b
  | p :: r, a, b => .tail (a p (.head _)) (upd_mk r (fun q hq => a q (.tail _ hq)) b)
section
variable {prog : Program} {w : World} {A : Around} {E : Value → Shared → Prop} {s : Shared} {K : Frag} {h₀ : Heap} {L x dx C : Addr} {ox : Obj} {m : Str → Option Value} {news : List (Addr × Obj)} {g : Obj → List (Addr × Obj)} {es : List DictEntry} {n : Nat} {v : Value}
theorem set_locals {Q : Unit → Shared → Prop} (F : Fr h₀ L s.heap m) (X₀ : K.In h₀) (N : News h₀ L s.heap news) (I : InstAt s.heap x ox C (some (dictOf es n))) (hd : ox.dict = some dx)
    (hs : findIn K (.ref C) "__setattr__" = some (some (.builtin "object.__setattr__"))) (hp : plainOver K C = true) (ht : takerIn K C "locals" = some none) (hh : hasDictIn K C = true)
    (hg : getL "locals" es = some (some .none)) (hl : es.length ≤ 100) (U : UpdF dx (dictOf es n) news g)
    (h : ∀ h' es' n', Fr h₀ L h' m → News h₀ L h' (g (dictOf es' n')) → getL "locals" es' = some (some v) → Q () { s with heap := h', toks := s.toks + 2 }) :
    wpAny (model prog w) A (setAttr (.ref x) "locals" v) Q E s := by
  obtain ⟨pre, post, e, hg', a, b⟩ := U.split
  subst e
  refine set_dict (es' := putL "locals" (PyData.keyHash w.params "locals") (.str "locals" (s.toks + 1)) v es) (n' := putN "locals" es n) F X₀ N I hd hs hp ht hh (by rw [hg]; rfl) rfl (upd_mk pre a b) (by have := putL_len "locals" (PyData.keyHash w.params "locals") (.str "locals" (s.toks + 1)) v es; omega) fun h' F' N' => ?_
  exact h h' _ _ F' (by rw [hg']; exact N') (getL_putL _ _ _ _ _)
end
section
variable {M : Model} {A : Around} {E : Value → Shared → Prop} {s : Shared} {env : Env}
theorem cw_dict {pos p : Pos} {id : String} {first : List Value} {ks : List (Option Expr)} {vs : List Expr} {Q : Value → Shared → Prop}
    (h : wpAny M A (spliced (backTo pos (starEach [.Dict ks vs p] env))) (fun vs s₁ => wpAny M A (call (.builtin id) (first ++ vs)) Q E s₁) E s) :
    wpAny M A (callWith pos (.builtin id) first (backTo pos (starEach [.Dict ks vs p] env)) []) Q E s := callWith_method1 h rfl rfl
theorem cw_list {pos p : Pos} {id : String} {first : List Value} {vs : List Expr} {Q : Value → Shared → Prop}
    (h : wpAny M A (spliced (backTo pos (starEach [.List vs p] env))) (fun vs s₁ => wpAny M A (call (.builtin id) (first ++ vs)) Q E s₁) E s) :
    wpAny M A (callWith pos (.builtin id) first (backTo pos (starEach [.List vs p] env)) []) Q E s := callWith_method1 h rfl rfl
end
inductive Pull (x : Addr × Obj) : List (Addr × Obj) → List (Addr × Obj) → Prop
  | head {r} : Pull x (x :: r) r
  | tail {y l r} : Pull x l r → Pull x (y :: l) (y :: r)
theorem Pull.perm {x : Addr × Obj} {l r : List (Addr × Obj)} (f : Pull x l r) : l.Perm (x :: r) := by
  induction f with
  | head => exact List.Perm.refl _
  | tail _ ih => exact (List.Perm.cons _ ih).trans (List.Perm.swap _ _ _)
theorem unr_pull {h₀ h' : Heap} {L I : Addr} {it : Obj} {rest : (PySem.Str → Option Value) → List (Addr × Obj) → Prop} {s₁ : Shared} {tk : Nat} {m' : PySem.Str → Option Value} {all news' : List (Addr × Obj)} (F : Fr h₀ L h' m') (N : News h₀ L h' all)
    (ND : (all.map Prod.fst).Nodup) (f : Pull (I, it) all news') (r : rest m' news') : UnrEnd h₀ L s₁ I it rest { s₁ with heap := h', toks := tk } :=
  unr_end F (news_perm f.perm N) (nd_perm f.perm ND) r
theorem nd_frontZ {g h : Heap} {L I : Addr} {l : List (Addr × Obj)} {K : List Addr} (_N : News g L h l) (ND : K.Nodup) (f : Front I K (l.map Prod.fst)) : (l.map Prod.fst).Nodup := (List.nodup_cons.mp (f.nodup_iff.mp ND)).2
structure St where
  (P xs wl hl kl bl : Addr) (k0 sd : Int) (ta ts tn tm : Tok) (n1 n2 nw nh nk nb : Nat) (us : List Value) (ns : List Int) (c0 c1 : WA) (m0 m1 : WM)
def St.led (Pm : Params) (z : St) : List (Addr × Obj) := (z.P, listOf [Value.ref z.xs, .int z.k0 z.ta, .int z.sd z.ts].toArray z.n1) :: (z.xs, listOf z.us.toArray z.n2) :: (z.wl, listOf [Value.ref z.c0.W, .ref z.c1.W].toArray z.nw) :: (z.hl, listOf [Value.ref z.c0.H, .ref z.c1.H].toArray z.nh) ::
  (z.kl, listOf [Value.ref z.c0.Kn, .ref z.c1.Kn].toArray z.nk) :: (z.bl, listOf [Value.ref z.c0.bl, .ref z.c1.bl].toArray z.nb) :: (CE Pm z.c0 z.m0 ++ CE Pm z.c1 z.m1)
structure St.Ok (w : World) (z : St) (n : Nat) : Prop where
  nd : ((z.led w.params).map Prod.fst).Nodup
  o0 : WOk w z.c0
  o1 : WOk w z.c1
  i0 : MOk w z.c0 z.m0
  i1 : MOk w z.c1 z.m1
  p0 : Cap n z.m0
  p1 : Cap n z.m1
  hI : IntsAre z.us z.ns
  hz : z.us.length ≤ 1000
  s0 : 0 ≤ z.sd
  s1 : z.sd ≤ 70000
  kk : 0 ≤ z.k0
def fmLaw (z : St) (fm0 : PySem.Str → Option Value) : PySem.Str → Option Value :=
  fun y => if y = "number" then some (.int 1 z.tn) else if y = "number" then some (.int 0 z.tm) else if y = "buffers" then some (.ref z.bl) else if y = "knowns" then some (.ref z.kl) else if y = "heres" then some (.ref z.hl) else if y = "worlds" then some (.ref z.wl) else if y = "pot" then some (.ref z.P) else fm0 y
def fmT (a b c A B C D G : Option Value) (base : PySem.Str → Option Value) : PySem.Str → Option Value :=
  fun y => if y = "number" then a else if y = "at" then b else if y = "each_turn" then c else if y = "buffers" then A else if y = "knowns" then B else if y = "heres" then C else if y = "worlds" then D else if y = "pot" then G else base y
theorem fm_start (u v A B C D G : Option Value) (base : PySem.Str → Option Value) : (fun y : PySem.Str => if y = "number" then u else if y = "number" then v else if y = "buffers" then A else if y = "knowns" then B else if y = "heres" then C else if y = "worlds" then D else if y = "pot" then G else base y) = fmT u (base "at") (base "each_turn") A B C D G base := by
  funext y
  unfold fmT
  by_cases h1 : y = "number"
  · simp only [if_pos h1]
  · simp only [if_neg h1]
    by_cases h2 : y = "at"
    · subst h2
      rw [if_pos rfl, if_neg (by decide), if_neg (by decide), if_neg (by decide), if_neg (by decide), if_neg (by decide)]
    · by_cases h3 : y = "each_turn"
      · subst h3
        rw [if_neg (show ¬ (("each_turn" : PySem.Str) = "at") by decide), if_pos rfl, if_neg (by decide), if_neg (by decide), if_neg (by decide), if_neg (by decide), if_neg (by decide)]
      · simp only [if_neg h2, if_neg h3]
theorem fm_turn (u v b' c' a b c A B C D G : Option Value) (base : PySem.Str → Option Value) : (fun y : PySem.Str => if y = "number" then u else if y = "number" then v else if y = "at" then b' else if y = "each_turn" then c' else if y = "number" then a else if y = "at" then b else if y = "each_turn" then c else if y = "buffers" then A else if y = "knowns" then B else if y = "heres" then C else if y = "worlds" then D else if y = "pot" then G else base y) = fmT u b' c' A B C D G base := by
  funext y
  unfold fmT
  by_cases h1 : y = "number"
  · simp only [if_pos h1]
  · by_cases h2 : y = "at"
    · simp only [if_neg h1, if_pos h2]
    · by_cases h3 : y = "each_turn"
      · simp only [if_neg h1, if_neg h2, if_pos h3]
      · simp only [if_neg h1, if_neg h2, if_neg h3]
section
variable {P : Params} {c : WA} {m : WM} {R : List (Addr × Obj)} {a1 a2 a3 a4 a5 a6 : Addr × Obj}
theorem mem_W0 : (c.W, instObj 484 c.dW) ∈ a1 :: a2 :: a3 :: a4 :: a5 :: a6 :: (CE P c m ++ R) :=
  .tail _ (.tail _ (.tail _ (.tail _ (.tail _ (.tail _ (List.mem_append_left _ (List.mem_append_left _ (.head _))))))))
theorem mem_W1 : (c.W, instObj 484 c.dW) ∈ a1 :: a2 :: a3 :: a4 :: a5 :: a6 :: (R ++ CE P c m) :=
  .tail _ (.tail _ (.tail _ (.tail _ (.tail _ (.tail _ (List.mem_append_right _ (List.mem_append_left _ (.head _))))))))
theorem mem_D0 : (c.dW, worldO P c.u1 c.u2 c.u3 c.u4 c.u5 c.u6 c.u7 c.ob c.ce c.va c.ba (curV c m.cur) m.lm m.lt) ∈ a1 :: a2 :: a3 :: a4 :: a5 :: a6 :: (CE P c m ++ R) :=
  .tail _ (.tail _ (.tail _ (.tail _ (.tail _ (.tail _ (List.mem_append_left _ (List.mem_append_left _ (.tail _ (.head _)))))))))
theorem mem_D1 : (c.dW, worldO P c.u1 c.u2 c.u3 c.u4 c.u5 c.u6 c.u7 c.ob c.ce c.va c.ba (curV c m.cur) m.lm m.lt) ∈ a1 :: a2 :: a3 :: a4 :: a5 :: a6 :: (R ++ CE P c m) :=
  .tail _ (.tail _ (.tail _ (.tail _ (.tail _ (.tail _ (List.mem_append_right _ (List.mem_append_left _ (.tail _ (.head _)))))))))
end
theorem nd_consI {I : Addr} {l : List (Addr × Obj)} (ND : (l.map Prod.fst).Nodup) (l1 : ∀ p ∈ l, p.1 < I) : (I :: l.map Prod.fst).Nodup := nd_consG ND l1
def JT (w : World) (base : PySem.Str → Option Value) (I : Addr) (i : Nat) (fm : PySem.Str → Option Value) (news : List (Addr × Obj)) : Prop :=
  ∃ (z : St) (a b c : Option Value), news = z.led w.params ∧ (I :: (z.led w.params).map Prod.fst).Nodup ∧ z.Ok w (5 * i) ∧ z.k0 ≤ 1 + 4 * (i : Int) ∧
    fm = fmT a b c (some (.ref z.bl)) (some (.ref z.kl)) (some (.ref z.hl)) (some (.ref z.wl)) (some (.ref z.P)) base
theorem two_cases {r : Int} (h0 : 0 ≤ r) (h2 : r < 2) : r = 0 ∨ r = 1 := by omega
theorem JT.mk {w : World} {bs : PySem.Str → Option Value} {I : Addr} {i n0 n1 : Nat} {z : St} {a b c : Option Value} {fm : PySem.Str → Option Value} {news : List (Addr × Obj)} (en : news = z.led w.params)
    (ef : fm = fmT a b c (some (.ref z.bl)) (some (.ref z.kl)) (some (.ref z.hl)) (some (.ref z.wl)) (some (.ref z.P)) bs) (hN : (I :: (z.led w.params).map Prod.fst).Nodup) (o0 : WOk w z.c0) (o1 : WOk w z.c1) (i0 : MOk w z.c0 z.m0) (i1 : MOk w z.c1 z.m1)
    (p0 : Cap n0 z.m0) (p1 : Cap n1 z.m1) (l0 : n0 ≤ 5 * (i + 1)) (l1 : n1 ≤ 5 * (i + 1)) (hI : IntsAre z.us z.ns) (hz : z.us.length ≤ 1000) (s0 : 0 ≤ z.sd) (s1 : z.sd ≤ 70000) (kk : 0 ≤ z.k0) (k9 : z.k0 ≤ 1 + 4 * ((i + 1 : Nat) : Int)) : JT w bs I (i + 1) fm news :=
  ⟨z, a, b, c, en, hN, ⟨(List.nodup_cons.mp hN).2, o0, o1, i0, i1, p0.mono l0, p1.mono l1, hI, hz, s0, s1, kk⟩, k9, ef⟩
section
variable {M : Model} {A : Around} {E : Value → Shared → Prop} {s : Shared} {h₀ : Heap} {L : Addr} {P : Params} {c0 c1 : WA} {m0 m1 : WM} {a1 a2 a3 a4 a5 a6 : Addr × Obj} {y0 y1 : Sy}
theorem isNot_sy {Q : Value → Shared → Prop} (N : News h₀ L s.heap (a1 :: a2 :: a3 :: a4 :: a5 :: a6 :: (CE P c0 m0 ++ CE P c1 m1))) (hy0 : y0 ∈ m0.syms) (hy1 : y1 ∈ m1.syms) (hne : y0.a ≠ y1.a) (h : Q (.bool true) s) : wpAny M A (compareOp .IsNot (.ref y0.a) (.ref y1.a)) Q E s :=
  have q0 : (y0.a, instObj 58 y0.da) ∈ a1 :: a2 :: a3 :: a4 :: a5 :: a6 :: (CE P c0 m0 ++ CE P c1 m1) := .tail _ (.tail _ (.tail _ (.tail _ (.tail _ (.tail _ (List.mem_append_left _ (List.mem_append_right _ (symL_mem1 hy0))))))))
  have q1 : (y1.a, instObj 58 y1.da) ∈ a1 :: a2 :: a3 :: a4 :: a5 :: a6 :: (CE P c0 m0 ++ CE P c1 m1) := .tail _ (.tail _ (.tail _ (.tail _ (.tail _ (.tail _ (List.mem_append_right _ (List.mem_append_right _ (symL_mem1 hy1))))))))
  wpAny_isNot_ref_other hne (N _ q0).1 (N _ q1).1 (by intro e; cases e) h
end
def Hold (p : Prop) : Prop := p
theorem Hold.mk {p : Prop} (h : Hold p) : p := h
theorem Hold.of {p : Prop} (h : p) : Hold p := h
theorem start_all {w : World} {g h : Heap} {L : Addr} {fm fm0 : PySem.Str → Option Value} {l : List (Addr × Obj)} {K : List Addr} {P xs wl hl kl bl : Addr} {ta ts tn tm : Tok} {sd : Int} {n1 n2 nw nh nk nb : Nat} {us : List Value} {ns : List Int} {W_0 dW_0 ob_0 dob_0 rw_0 nm_0 va_0 dva_0 df_0 au_0 ba_0 dba_0 bv_0 lo_0 dlo_0 lv_0 ce_0 dce_0 fn_0 b1_0 d1_0 b2_0 d2_0 bl_0 H_0 hde_0 hba_0 how_0 hfu_0 Kn_0 pe_0 pl_0 : Addr} {u1_0 u2_0 u3_0 u4_0 u5_0 u6_0 u7_0 o1_0 o2_0 c1_0 c2_0 v1_0 v2_0 v3_0 l1_0 l2_0 ct_0 lt_0 mt_0 : Tok} {rn_0 n1_0 n2_0 bn_0 : Nat} {HO_0 nmO_0 dfO_0 auO_0 bvO_0 lvO_0 fnO_0 hdO_0 hbO_0 hwO_0 hfO_0 KO_0 : Obj} {es1_0 es2_0 : List DictEntry} {W_1 dW_1 ob_1 dob_1 rw_1 nm_1 va_1 dva_1 df_1 au_1 ba_1 dba_1 bv_1 lo_1 dlo_1 lv_1 ce_1 dce_1 fn_1 b1_1 d1_1 b2_1 d2_1 bl_1 H_1 hde_1 hba_1 how_1 hfu_1 Kn_1 pe_1 pl_1 : Addr} {u1_1 u2_1 u3_1 u4_1 u5_1 u6_1 u7_1 o1_1 o2_1 c1_1 c2_1 v1_1 v2_1 v3_1 l1_1 l2_1 ct_1 lt_1 mt_1 : Tok} {rn_1 n1_1 n2_1 bn_1 : Nat} {HO_1 nmO_1 dfO_1 auO_1 bvO_1 lvO_1 fnO_1 hdO_1 hbO_1 hwO_1 hfO_1 KO_1 : Obj} {es1_1 es2_1 : List DictEntry} {s : Shared} {tk : Nat}
   (F : Fr g L h fm) (N : News g L h l) (ND : K.Nodup) (ef : fm = fun y : PySem.Str => if y = "number" then some (.int 1 tn) else if y = "number" then some (.int 0 tm) else if y = "buffers" then some (.ref bl) else if y = "knowns" then some (.ref kl) else if y = "heres" then some (.ref hl) else if y = "worlds" then some (.ref wl) else if y = "pot" then some (.ref P) else fm0 y)
   (pP : (P, listOf [Value.ref xs, .int 0 ta, .int sd ts].toArray n1) ∈ l) (px : (xs, listOf us.toArray n2) ∈ l)
   (pw : (wl, listOf [Value.ref W_0, .ref W_1].toArray nw) ∈ l) (ph : (hl, listOf [Value.ref H_0, .ref H_1].toArray nh) ∈ l) (pk : (kl, listOf [Value.ref Kn_0, .ref Kn_1].toArray nk) ∈ l) (pb : (bl, listOf [Value.ref bl_0, .ref bl_1].toArray nb) ∈ l)
   (q_W_0 : (W_0, instObj 484 dW_0) ∈ l) (q_dW_0 : (dW_0, worldO w.params u1_0 u2_0 u3_0 u4_0 u5_0 u6_0 u7_0 ob_0 ce_0 va_0 ba_0 .none 0 lt_0) ∈ l) (q_ob_0 : (ob_0, instObj 302 dob_0) ∈ l) (q_dob_0 : (dob_0, obO w.params o1_0 o2_0 rw_0 nm_0) ∈ l) (q_rw_0 : (rw_0, listOf [Value.ref 64, .ref 67].toArray rn_0) ∈ l) (q_nm_0 : (nm_0, nmO_0) ∈ l) (q_va_0 : (va_0, instObj 365 dva_0) ∈ l) (q_dva_0 : (dva_0, varsO w.params v1_0 v2_0 v3_0 df_0 au_0 pe_0) ∈ l) (q_df_0 : (df_0, dfO_0) ∈ l) (q_au_0 : (au_0, auO_0) ∈ l) (q_ba_0 : (ba_0, instObj 421 dba_0) ∈ l) (q_dba_0 : (dba_0, locO w.params l1_0 bv_0) ∈ l) (q_bv_0 : (bv_0, bvO_0) ∈ l) (q_ce_0 : (ce_0, instObj 225 dce_0) ∈ l) (q_dce_0 : (dce_0, cellsO w.params c1_0 c2_0 fn_0 pl_0) ∈ l) (q_fn_0 : (fn_0, fnO_0) ∈ l) (q_bl_0 : (bl_0, listOf [Value.ref b1_0, Value.ref b2_0].toArray bn_0) ∈ l) (q_b1_0 : (b1_0, instObj 751 d1_0) ∈ l) (q_d1_0 : (d1_0, dictOf es1_0 n1_0) ∈ l) (q_b2_0 : (b2_0, instObj 751 d2_0) ∈ l) (q_d2_0 : (d2_0, dictOf es2_0 n2_0) ∈ l) (e1_0 : getL "locals" es1_0 = some (some .none)) (e2_0 : getL "locals" es2_0 = some (some (.ref lo_0))) (q_lo_0 : (lo_0, instObj 421 dlo_0) ∈ l) (q_dlo_0 : (dlo_0, locO w.params l2_0 lv_0) ∈ l) (q_lv_0 : (lv_0, lvO_0) ∈ l) (q_H_0 : (H_0, HO_0) ∈ l) (iH_0 : HO_0.IsDictOf (PySem.strKind PySem.Challenge.rw_ok0067_01.row.prog w) [("current", .int 0 ct_0), ("default", .ref hde_0), ("bare", .ref hba_0), ("own", .ref how_0), ("functions", .ref hfu_0), ("markers", .int 0 mt_0)]) (q_hde_0 : (hde_0, hdO_0) ∈ l) (q_hba_0 : (hba_0, hbO_0) ∈ l) (q_how_0 : (how_0, hwO_0) ∈ l) (q_hfu_0 : (hfu_0, hfO_0) ∈ l) (q_Kn_0 : (Kn_0, KO_0) ∈ l) (inm_0 : nmO_0.IsDictOf (PySem.strKind PySem.Challenge.rw_ok0067_01.row.prog w) [("nil", .ref 64), ("t", .ref 67)]) (ifn_0 : fnO_0.IsDictOf (PySem.intKind PySem.Challenge.rw_ok0067_01.row.prog w) []) (idf_0 : dfO_0.IsDictOf (PySem.intKind PySem.Challenge.rw_ok0067_01.row.prog w) []) (iau_0 : auO_0.IsDictOf (PySem.intKind PySem.Challenge.rw_ok0067_01.row.prog w) []) (ibv_0 : bvO_0.IsDictOf (PySem.intKind PySem.Challenge.rw_ok0067_01.row.prog w) []) (ilv_0 : lvO_0.IsDictOf (PySem.intKind PySem.Challenge.rw_ok0067_01.row.prog w) []) (ihd_0 : hdO_0.IsDictOf (PySem.strKind PySem.Challenge.rw_ok0067_01.row.prog w) []) (ihb_0 : hbO_0.IsDictOf (PySem.strKind PySem.Challenge.rw_ok0067_01.row.prog w) []) (ihw_0 : hwO_0.IsDictOf (PySem.strKind PySem.Challenge.rw_ok0067_01.row.prog w) []) (ihf_0 : hfO_0.IsDictOf (PySem.strKind PySem.Challenge.rw_ok0067_01.row.prog w) []) (iK_0 : KO_0.IsDictOf (PySem.strKind PySem.Challenge.rw_ok0067_01.row.prog w) []) (s_nm_0 : (nm_0 == sysModules) = false) (s_fn_0 : (fn_0 == sysModules) = false) (s_df_0 : (df_0 == sysModules) = false) (s_au_0 : (au_0 == sysModules) = false) (s_bv_0 : (bv_0 == sysModules) = false) (s_lv_0 : (lv_0 == sysModules) = false) (s_H_0 : (H_0 == sysModules) = false) (s_hde_0 : (hde_0 == sysModules) = false) (s_hba_0 : (hba_0 == sysModules) = false) (s_how_0 : (how_0 == sysModules) = false) (s_hfu_0 : (hfu_0 == sysModules) = false) (s_Kn_0 : (Kn_0 == sysModules) = false)
   (q_W_1 : (W_1, instObj 484 dW_1) ∈ l) (q_dW_1 : (dW_1, worldO w.params u1_1 u2_1 u3_1 u4_1 u5_1 u6_1 u7_1 ob_1 ce_1 va_1 ba_1 .none 0 lt_1) ∈ l) (q_ob_1 : (ob_1, instObj 302 dob_1) ∈ l) (q_dob_1 : (dob_1, obO w.params o1_1 o2_1 rw_1 nm_1) ∈ l) (q_rw_1 : (rw_1, listOf [Value.ref 64, .ref 67].toArray rn_1) ∈ l) (q_nm_1 : (nm_1, nmO_1) ∈ l) (q_va_1 : (va_1, instObj 365 dva_1) ∈ l) (q_dva_1 : (dva_1, varsO w.params v1_1 v2_1 v3_1 df_1 au_1 pe_1) ∈ l) (q_df_1 : (df_1, dfO_1) ∈ l) (q_au_1 : (au_1, auO_1) ∈ l) (q_ba_1 : (ba_1, instObj 421 dba_1) ∈ l) (q_dba_1 : (dba_1, locO w.params l1_1 bv_1) ∈ l) (q_bv_1 : (bv_1, bvO_1) ∈ l) (q_ce_1 : (ce_1, instObj 225 dce_1) ∈ l) (q_dce_1 : (dce_1, cellsO w.params c1_1 c2_1 fn_1 pl_1) ∈ l) (q_fn_1 : (fn_1, fnO_1) ∈ l) (q_bl_1 : (bl_1, listOf [Value.ref b1_1, Value.ref b2_1].toArray bn_1) ∈ l) (q_b1_1 : (b1_1, instObj 751 d1_1) ∈ l) (q_d1_1 : (d1_1, dictOf es1_1 n1_1) ∈ l) (q_b2_1 : (b2_1, instObj 751 d2_1) ∈ l) (q_d2_1 : (d2_1, dictOf es2_1 n2_1) ∈ l) (e1_1 : getL "locals" es1_1 = some (some .none)) (e2_1 : getL "locals" es2_1 = some (some (.ref lo_1))) (q_lo_1 : (lo_1, instObj 421 dlo_1) ∈ l) (q_dlo_1 : (dlo_1, locO w.params l2_1 lv_1) ∈ l) (q_lv_1 : (lv_1, lvO_1) ∈ l) (q_H_1 : (H_1, HO_1) ∈ l) (iH_1 : HO_1.IsDictOf (PySem.strKind PySem.Challenge.rw_ok0067_01.row.prog w) [("current", .int 0 ct_1), ("default", .ref hde_1), ("bare", .ref hba_1), ("own", .ref how_1), ("functions", .ref hfu_1), ("markers", .int 0 mt_1)]) (q_hde_1 : (hde_1, hdO_1) ∈ l) (q_hba_1 : (hba_1, hbO_1) ∈ l) (q_how_1 : (how_1, hwO_1) ∈ l) (q_hfu_1 : (hfu_1, hfO_1) ∈ l) (q_Kn_1 : (Kn_1, KO_1) ∈ l) (inm_1 : nmO_1.IsDictOf (PySem.strKind PySem.Challenge.rw_ok0067_01.row.prog w) [("nil", .ref 64), ("t", .ref 67)]) (ifn_1 : fnO_1.IsDictOf (PySem.intKind PySem.Challenge.rw_ok0067_01.row.prog w) []) (idf_1 : dfO_1.IsDictOf (PySem.intKind PySem.Challenge.rw_ok0067_01.row.prog w) []) (iau_1 : auO_1.IsDictOf (PySem.intKind PySem.Challenge.rw_ok0067_01.row.prog w) []) (ibv_1 : bvO_1.IsDictOf (PySem.intKind PySem.Challenge.rw_ok0067_01.row.prog w) []) (ilv_1 : lvO_1.IsDictOf (PySem.intKind PySem.Challenge.rw_ok0067_01.row.prog w) []) (ihd_1 : hdO_1.IsDictOf (PySem.strKind PySem.Challenge.rw_ok0067_01.row.prog w) []) (ihb_1 : hbO_1.IsDictOf (PySem.strKind PySem.Challenge.rw_ok0067_01.row.prog w) []) (ihw_1 : hwO_1.IsDictOf (PySem.strKind PySem.Challenge.rw_ok0067_01.row.prog w) []) (ihf_1 : hfO_1.IsDictOf (PySem.strKind PySem.Challenge.rw_ok0067_01.row.prog w) []) (iK_1 : KO_1.IsDictOf (PySem.strKind PySem.Challenge.rw_ok0067_01.row.prog w) []) (s_nm_1 : (nm_1 == sysModules) = false) (s_fn_1 : (fn_1 == sysModules) = false) (s_df_1 : (df_1 == sysModules) = false) (s_au_1 : (au_1 == sysModules) = false) (s_bv_1 : (bv_1 == sysModules) = false) (s_lv_1 : (lv_1 == sysModules) = false) (s_H_1 : (H_1 == sysModules) = false) (s_hde_1 : (hde_1 == sysModules) = false) (s_hba_1 : (hba_1 == sysModules) = false) (s_how_1 : (how_1 == sysModules) = false) (s_hfu_1 : (hfu_1 == sysModules) = false) (s_Kn_1 : (Kn_1 == sysModules) = false)
   (hI : IntsAre us ns) (hz : us.length ≤ 1000) (s0 : 0 ≤ sd) (s1 : sd ≤ 70000) (S : Sel [P, xs, wl, hl, kl, bl, W_0, dW_0, H_0, ob_0, dob_0, rw_0, nm_0, va_0, dva_0, df_0, au_0, ba_0, dba_0, bv_0, lo_0, dlo_0, lv_0, ce_0, dce_0, fn_0, b1_0, d1_0, b2_0, d2_0, bl_0, hde_0, hba_0, how_0, hfu_0, Kn_0, W_1, dW_1, H_1, ob_1, dob_1, rw_1, nm_1, va_1, dva_1, df_1, au_1, ba_1, dba_1, bv_1, lo_1, dlo_1, lv_1, ce_1, dce_1, fn_1, b1_1, d1_1, b2_1, d2_1, bl_1, hde_1, hba_1, how_1, hfu_1, Kn_1] K) {fmB : PySem.Str → Option Value} :
   Mid g L fmB (fun _ fm' news' => ∃ (z : St) (bs : PySem.Str → Option Value), news' = z.led w.params ∧ St.Ok w z 0 ∧ z.k0 = 0 ∧ fm' = fmLaw z bs) s .next { s with heap := h, toks := tk } := by
  obtain ⟨c0, m0, O0, I0, C0, rfl, rfl, rfl, rfl, M0, K0⟩ := start_w (w := w) q_W_0 q_dW_0 q_ob_0 q_dob_0 q_rw_0 q_nm_0 q_va_0 q_dva_0 q_df_0 q_au_0 q_ba_0 q_dba_0 q_bv_0 q_ce_0 q_dce_0 q_fn_0 q_bl_0 q_b1_0 q_d1_0 q_b2_0 q_d2_0 e1_0 e2_0 q_lo_0 q_dlo_0 q_lv_0 q_H_0 iH_0 q_hde_0 q_hba_0 q_how_0 q_hfu_0 q_Kn_0 inm_0 ifn_0 idf_0 iau_0 ibv_0 ilv_0 ihd_0 ihb_0 ihw_0 ihf_0 iK_0 s_nm_0 s_fn_0 s_df_0 s_au_0 s_bv_0 s_lv_0 s_H_0 s_hde_0 s_hba_0 s_how_0 s_hfu_0 s_Kn_0
  obtain ⟨c1, m1, O1, I1, C1, rfl, rfl, rfl, rfl, M1, K1⟩ := start_w (w := w) q_W_1 q_dW_1 q_ob_1 q_dob_1 q_rw_1 q_nm_1 q_va_1 q_dva_1 q_df_1 q_au_1 q_ba_1 q_dba_1 q_bv_1 q_ce_1 q_dce_1 q_fn_1 q_bl_1 q_b1_1 q_d1_1 q_b2_1 q_d2_1 e1_1 e2_1 q_lo_1 q_dlo_1 q_lv_1 q_H_1 iH_1 q_hde_1 q_hba_1 q_how_1 q_hfu_1 q_Kn_1 inm_1 ifn_1 idf_1 iau_1 ibv_1 ilv_1 ihd_1 ihb_1 ihw_1 ihf_1 iK_1 s_nm_1 s_fn_1 s_df_1 s_au_1 s_bv_1 s_lv_1 s_H_1 s_hde_1 s_hba_1 s_how_1 s_hfu_1 s_Kn_1
  refine Mid.intro F (news' := St.led w.params ⟨P, xs, wl, hl, kl, bl, 0, sd, ta, ts, tn, tm, n1, n2, nw, nh, nk, nb, us, ns, c0, c1, m0, m1⟩) (news_sub N ?_) ⟨⟨P, xs, wl, hl, kl, bl, 0, sd, ta, ts, tn, tm, n1, n2, nw, nh, nk, nb, us, ns, c0, c1, m0, m1⟩, fm0, rfl, ⟨?_, O0, O1, I0, I1, C0, C1, hI, hz, s0, s1, Int.le_refl 0⟩, rfl, ef⟩
  · unfold St.led
    refine List.forall_mem_cons.mpr ⟨pP, List.forall_mem_cons.mpr ⟨px, List.forall_mem_cons.mpr ⟨pw, List.forall_mem_cons.mpr ⟨ph, List.forall_mem_cons.mpr ⟨pk, List.forall_mem_cons.mpr ⟨pb, ?_⟩⟩⟩⟩⟩⟩
    intro p hp
    rcases List.mem_append.mp hp with q | q
    · exact M0 p q
    · exact M1 p q
  · unfold St.led
    simp only [List.map_cons, List.map_append, K0, K1]
    exact S.nodup ND
theorem words24 : True := by
  k_with "subl" => (first | exact List.nil_sublist _ | (refine List.Sublist.cons_cons _ ?_; k_extra "subl") | (refine List.Sublist.cons _ ?_; k_extra "subl"))
  k_with "sublist" => ((refine' List.Nodup.sublist ?_ ?q21n; (case q21n => assumption); k_extra "subl"))
  k_with "call ref" => ((k_here; (with_reducible show wpAny _ _ (call (Value.ref 334) _) _ _ _); k_dflt (refine' set_default_c ?q24F ?q24N ?q24X ?q24T ?q24r ?q24m1 ?q24m2 ?q24m3 ?q24nd ?q24hd ?q24hz ?_; (case q24F => k_asm); (case q24N => k_asm); (case q24X => k_asm); (case q24T => k_asm); (case q24r => k_room); (case q24m1 => k_mem); (case q24m2 => k_mem); (case q24m3 => k_mem); (case q24nd => (k_extra "sublist")); (case q24hd => k_asm); (case q24hz => omega); k_whole); (intro z9h' z9tk' z9o' z9F' z9ho' z9hd' z9B'); (have z9cN := chg_news (by assumption) (by assumption) (by k_extra "sub") z9B' z9ho' (by k_extra "chg")); (obtain ⟨z9N', z9ND'⟩ := z9cN); (try k_sweep)))
  k_with "call ref" => ((k_here; (with_reducible show wpAny _ _ (call (Value.ref 411) _) _ _ _); k_dflt (refine' kill_c ?q24F ?q24N ?q24X ?q24T ?q24r ?q24m1 ?q24m2 ?q24m3 ?q24nd ?q24lo ?q24hd ?q24hz ?_; (case q24F => k_asm); (case q24N => k_asm); (case q24X => k_asm); (case q24T => k_asm); (case q24r => k_room); (case q24m1 => k_mem); (case q24m2 => k_mem); (case q24m3 => k_mem); (case q24nd => (k_extra "sublist")); (case q24lo => k_asm); (case q24hd => k_asm); (case q24hz => omega); k_whole); (intro z9h' z9tk' z9o' z9F' z9ho' z9hd' z9B'); (have z9cN := chg_news (by assumption) (by assumption) (by k_extra "sub") z9B' z9ho' (by k_extra "chg")); (obtain ⟨z9N', z9ND'⟩ := z9cN); (try k_sweep)))
  k_with "my_inl" => ((refine' code_inl ?q25k1 ?q25k2 ?q25kN ?q25k3 ?q25k4 ?q25k5 ?q25k6 ?q25k7 ?q25k8 ?_ ?q25c2 ?q25c3 ?q25c4 ?q25c5; (case q25k1 => k_asm); (case q25k2 => k_asm); (case q25kN => k_asm); (case q25k3 => k_asm); (case q25k4 => k_is); (case q25k5 => k_is); (case q25k6 => k_room); (case q25k7 => first | exact BindsTo.of_eq rfl | exact binds_K (by k_in) rfl (by k_is) rfl rfl rfl); (case q25k8 => exact locs rfl); (case q25c2 => exact rfl); (case q25c3 => exact rfl); (case q25c4 => exact rfl); (case q25c5 => decide); (intro z9g' z9L' z9h' z9FG' z9F' z9N' z9X' z9T'); dsimp only; (show wpAny _ _ _ _ _ _); k_fold))
  k_with "call ref" => ((k_here; k_dflt (first
  | (refine' call_cls0 ?q24k1 ?q24k2 ?q24k3 ?q24k4 ?q24k5 ?_; (case q24k1 => k_asm); (case q24k2 => k_asm); (case q24k3 => k_asm); (case q24k4 => k_is); (case q24k5 => k_is); k_whole; intro z9x' z9d' z9h' z9F' z9N' z9l1 z9l2; (try k_lt z9l1); (try k_lt2 z9l2); (try k_sweep))
  | (refine' call_cls ?q24k1 ?q24k2 ?q24k3 ?q24k4 ?q24k5 ?q24k6 ?_; (case q24k1 => k_asm); (case q24k2 => k_asm); (case q24k3 => k_asm); (case q24k4 => k_is); (case q24k5 => k_is); (case q24k6 => k_is); k_whole; intro z9x' z9d' z9h' z9F' z9N' z9l1 z9l2; (try k_lt z9l1); (try k_lt2 z9l2); (try k_sweep); k_extra "my_inl"))))
  k_with "k_ne" => ((refine neN ?_; (try dsimp only); first | k_extra "nd" | omega))
  k_with "call builtin:list.append" => ((k_here; (with_reducible show wpAny _ _ (call (Value.builtin _) [Value.ref _, _]) _ _ _); k_dflt (refine' my_append ?q26k1 ?q26k2 ?q26k3 ?q26z ?_; (case q26k1 => k_asm); (case q26k2 => k_asm); (case q26k3 => k_upd); (case q26z => rw [sizeLine_eq]; omega); k_whole); intro z9h' z9F' z9N'; (try k_sweep)))
  k_with "call builtin:len" => ((k_here; (with_reducible show wpAny _ _ (call (Value.builtin "len") [Value.ref _]) _ _ _); k_dflt (refine my_len (by k_asm) (by k_mem) (by k_asm) ?_)))
  k_with "getItem ref int" => ((k_here; k_dflt (refine my_at (by k_asm) (by k_mem) (by omega) (by omega) (by k_asm) ?_)))
  k_with "subscriptTail" => ((k_here; (with_reducible show wpAny _ _ (subscriptTail _ _ (Value.ref _) (Value.int _ _)) _ _ _); k_dflt (refine my_tail (by k_asm) (by k_mem) (by omega) (by omega) (by k_asm) ?_)))
  k_with "nn" => (first | exact List.forall_mem_nil _ | (refine' List.forall_mem_cons.mpr ⟨?q29a, ?q29b⟩; (case q29a => k_all); (case q29b => k_extra "nn")))
  k_with "hn" => (first | exact List.forall_mem_nil _ | (refine' List.forall_mem_cons.mpr ⟨?q30a, ?q30b⟩; (case q30a => k_extra "mem"); (case q30b => k_extra "hn")))
  k_with "call ref" => ((k_here; (with_reducible show wpAny _ _ (call (Value.ref 765) _) _ _ _); k_dflt (refine' dip_c ?q24F ?q24N ?q24X ?q24T ?q24r ?q24m1 ?q24m2 ?q24nd ?q24hI ?q24hz ?q24h0 ?q24h1 ?q24s0 ?q24s1 ?q24hm ?q24hm2 ?_; (case q24F => k_asm); (case q24N => k_asm); (case q24X => k_asm); (case q24T => k_asm); (case q24r => k_room); (case q24m1 => k_mem); (case q24m2 => k_mem); (case q24nd => (k_extra "sublist")); (case q24hI => k_asm); (case q24hz => k_asm); (case q24h0 => omega); (case q24h1 => omega); (case q24s0 => omega); (case q24s1 => omega); (case q24hm => decide); (case q24hm2 => decide); k_whole); (intro z9h' z9tk' z9r' z9tr' z9n1' z9sd' z9ta' z9ts' z9F' z9ho' z9B' z9r0' z9r1' z9s0' z9s1'); (have z9N' := upd_news (by k_asm) z9B' z9ho' (by k_updF)); (try dsimp only at z9N'); (try k_sweep)))
  k_with "call ref" => ((k_here; (with_reducible show wpAny _ _ (call (Value.ref 474) _) _ _ _); k_dflt (refine' fresh_marker_c ?q24F ?q24N ?q24X ?q24T ?q24r ?q24m1 ?q24m2 ?q24nd ?q24h0 ?q24h1 ?_; (case q24F => k_asm); (case q24N => k_asm); (case q24X => k_asm); (case q24T => k_asm); (case q24r => k_room); (case q24m1 => k_mem); (case q24m2 => k_mem); (case q24nd => (k_extra "sublist")); (case q24h0 => omega); (case q24h1 => omega); k_whole); (intro z9h' z9tk' z9t1' z9t2' z9F' z9ho' z9B'); (have z9N' := upd_news (by k_asm) z9B' z9ho' (by k_updF)); (try dsimp only at z9N'); (try k_sweep)))
  k_with "call ref" => ((k_here; (with_reducible show wpAny _ _ (call (Value.ref 411) _) _ _ _); k_dflt (refine' kill_c ?q24F ?q24N ?q24X ?q24T ?q24r ?q24m1 ?q24m2 ?q24m3 ?q24nd ?q24lo ?q24hd ?q24hz ?_; (case q24F => k_asm); (case q24N => k_asm); (case q24X => k_asm); (case q24T => k_asm); (case q24r => k_room); (case q24m1 => k_mem); (case q24m2 => k_mem); (case q24m3 => k_mem); (case q24nd => (k_extra "sublist")); (case q24lo => k_asm); (case q24hd => k_asm); (case q24hz => omega); k_whole); (intro z9h' z9tk' z9o' z9F' z9ho' z9hd' z9B'); (have z9N' := upd_news (by k_asm) z9B' z9ho' (by k_updF)); (try dsimp only at z9N'); (try k_sweep)))
  k_with "call ref" => ((k_here; (with_reducible show wpAny _ _ (call (Value.ref 439) _) _ _ _); k_dflt (refine' set_in_local2 ?q24F ?q24N ?q24X ?q24T ?q24r ?q24m1 ?q24m2 ?q24m3 ?q24nd ?q24l2 ?q24hd2 ?q24hk ?q24hz ?_; (case q24F => k_asm); (case q24N => k_asm); (case q24X => k_asm); (case q24T => k_asm); (case q24r => k_room); (case q24m1 => k_mem); (case q24m2 => k_mem); (case q24m3 => k_mem); (case q24nd => (k_extra "sublist")); (case q24l2 => k_asm); (case q24hd2 => k_asm); (case q24hk => (with_reducible assumption)); (case q24hz => omega); k_whole); (intro z9h' z9tk' z9o' z9F' z9ho' z9hd' z9B'); (have z9N' := upd_news (by k_asm) z9B' z9ho' (by k_updF)); (try dsimp only at z9N'); (try k_sweep)))
  k_with "call ref" => ((k_here; (with_reducible show wpAny _ _ (call (Value.ref 439) _) _ _ _); k_dflt (refine' set_in_default ?q24F ?q24N ?q24X ?q24T ?q24r ?q24m1 ?q24m2 ?q24m3 ?q24m7 ?q24m4 ?q24m5 ?q24m6 ?q24nd ?q24l2 ?q24l3 ?q24hd1 ?q24hd3 ?q24hd2 ?q24hk ?q24hka ?q24hz ?_; (case q24F => k_asm); (case q24N => k_asm); (case q24X => k_asm); (case q24T => k_asm); (case q24r => k_room); (case q24m1 => k_mem); (case q24m2 => k_mem); (case q24m3 => k_mem); (case q24m7 => k_mem); (case q24m4 => k_mem); (case q24m5 => k_mem); (case q24m6 => k_mem); (case q24nd => (k_extra "sublist")); (case q24l2 => k_asm); (case q24l3 => k_asm); (case q24hd1 => k_asm); (case q24hd3 => k_asm); (case q24hd2 => k_asm); (case q24hk => (with_reducible assumption)); (case q24hka => (first | with_reducible assumption | rfl)); (case q24hz => omega); k_whole); (intro z9h' z9tk' z9o' z9F' z9ho' z9hd' z9B'); (have z9N' := upd_news (by k_asm) z9B' z9ho' (by k_updF)); (try dsimp only at z9N'); (try k_sweep)))
  k_with "call ref" => ((k_here; (with_reducible show wpAny _ _ (call (Value.ref 404) _) _ _ _); k_dflt (refine' make_local_new ?q24F ?q24N ?q24X ?q24T ?q24r ?q24m1 ?q24m2 ?q24m3 ?q24m4 ?q24m5 ?q24m6 ?q24nd ?q24l1 ?q24l2 ?q24hd1 ?q24hd2 ?q24hk ?q24hz ?_; (case q24F => k_asm); (case q24N => k_asm); (case q24X => k_asm); (case q24T => k_asm); (case q24r => k_room); (case q24m1 => k_mem); (case q24m2 => k_mem); (case q24m3 => k_mem); (case q24m4 => k_mem); (case q24m5 => k_mem); (case q24m6 => k_mem); (case q24nd => (k_extra "sublist")); (case q24l1 => k_asm); (case q24l2 => k_asm); (case q24hd1 => k_asm); (case q24hd2 => k_asm); (case q24hk => (with_reducible assumption)); (case q24hz => omega); k_whole); (intro z9h' z9tk' z9o' z9F' z9ho' z9hd' z9B'); (have z9N' := upd_news (by k_asm) z9B' z9ho' (by k_updF)); (try dsimp only at z9N'); (try k_sweep)))
  k_with "call ref" => ((k_here; (with_reducible show wpAny _ _ (call (Value.ref 481) _) _ _ _); k_dflt (refine' put_functions_f ?q24F ?q24N ?q24X ?q24T ?q24r ?q24m1 ?q24m2 ?q24m3 ?q24m4 ?q24m5 ?q24m6 ?q24m7 ?q24m8 ?q24m9 ?q24m10 ?q24m11 ?q24m12 ?q24m13 ?q24nd ?q24n1 ?q24n2 ?q24n3 ?q24n4 ?q24n5 ?q24lo ?q24hd ?q24hk ?q24hd2 ?q24hz ?q24hA ?_; (case q24F => k_asm); (case q24N => k_asm); (case q24X => k_asm); (case q24T => k_asm); (case q24r => k_room); (case q24m1 => k_mem); (case q24m2 => k_mem); (case q24m3 => k_mem); (case q24m4 => k_mem); (case q24m5 => k_mem); (case q24m6 => k_mem); (case q24m7 => k_mem); (case q24m8 => k_mem); (case q24m11 => k_mem); (case q24m12 => k_mem); (case q24m13 => k_mem); (case q24lo => k_asm); (case q24hd => k_asm); (case q24hk => (with_reducible assumption)); (case q24m9 => k_mem); (case q24m10 => k_mem); (case q24nd => (k_extra "sublist")); (case q24n1 => k_asm); (case q24n2 => k_asm); (case q24n3 => (refine neN ?_; omega)); (case q24n4 => (refine neN ?_; omega)); (case q24n5 => (refine neN ?_; omega)); (case q24hd2 => k_asm); (case q24hz => omega); (case q24hA => (first | rfl | assumption)); k_whole); (intro z9h' z9tk' z9o' z9F' z9ho' z9hd' z9B'); (have z9N' := upd_news (by k_asm) z9B' z9ho' (by k_updF)); (try dsimp only at z9N'); (try k_sweep)))
  k_with "my_enter2" => ((refine' code_foot ?q45k1 ?q45k2 ?q45k3 ?q45k4 ?q45k5 ?q45k6 ?q45k7 ?q45k8 _ ?q45kN ?_ ?q45c2 ?q45c3 ?q45c4 ?q45c5; (case q45k1 => k_asm); (case q45k2 => k_asm); (case q45k3 => k_asm); (case q45k4 => k_is); (case q45k5 => k_is); (case q45k6 => k_room); (case q45k7 => first | exact BindsTo.of_eq rfl | exact binds_K (by k_in) rfl (by k_is) rfl rfl rfl); (case q45k8 => exact locs rfl); (case q45kN => assumption); (case q45c2 => exact rfl); (case q45c3 => exact rfl); (case q45c4 => exact rfl); (case q45c5 => decide); (intro z9g' z9L' z9h' z9F' z9N' z9X' z9T' z9l1 z9hgk); (try k_lt z9l1); dsimp only; (show wpAny _ _ _ _ _ _); k_fold))
  k_with "ndn" => (first | exact List.forall_mem_nil _ | (refine' List.forall_mem_cons.mpr ⟨?q46a, ?q46b⟩; (case q46a => (refine neN ?_; (try dsimp only); omega)); (case q46b => k_extra "ndn")))
  k_with "ndl" => (first | exact ndl_nil | (refine' ndl_cons ?q47a ?q47b; (case q47a => k_extra "ndn"); (case q47b => k_extra "ndl")))
  k_with "chg2" => (first | exact Chg2.head | (refine' Chg2.tail ?q34c; (case q34c => k_extra "chg2")))
  k_with "chgF" => (first | exact ChgF.head | (refine' ChgF.tail ?q35c; (case q35c => k_extra "chgF")))
  k_with "myupd" => ((refine' upd_of ?q36nd ?q36c; (case q36nd => assumption); (case q36c => k_extra "chg2")))
  k_with "myupdF" => ((refine' updF_of ?q37nd ?q37c; (case q37nd => assumption); (case q37c => k_extra "chgF")))
  k_with "k_upd" => (k_extra "myupd")
  k_with "k_updF" => (k_extra "myupdF")
  k_with "call ref" => ((k_here; k_dflt (refine' call_cls ?q24k1 ?q24k2 ?q24k3 ?q24k4 ?q24k5 ?q24k6 ?_; (case q24k1 => k_asm); (case q24k2 => k_asm); (case q24k3 => k_asm); (case q24k4 => k_is); (case q24k5 => k_is); (case q24k6 => k_is); k_whole; intro z9x' z9d' z9h' z9F' z9N' z9l1 z9l2; k_dflt (have z9nd' := nd_twoG z9N' (by assumption) z9l1 z9l2); (simp only [List.map_cons, List.map_nil] at z9nd'); (try clear z9l1); (try clear z9l2); (try k_sweep); k_extra "my_inl")))
  k_with "eval Dict nil nil" => ((k_here; k_dflt (refine' newDict_K ?q48k1 ?q48k2 (TopRead.nolimit (by k_asm)) ?_; (case q48k1 => k_asm); (case q48k2 => k_asm); k_whole); intro z9d' z9h' z9o' z9F' z9N' z9l1 z9lo' z9hs' z9fs' z9hi' z9fi'; k_dflt (have z9nd' := nd_oneG z9N' (by assumption) z9l1); (simp only [List.map_cons, List.map_nil] at z9nd'); (try clear z9l1); (try clear z9fs'); (try clear z9fi'); (try k_sweep)))
  k_with "newList" => ((k_here; k_dflt (refine' newList_K ?q49k1 ?q49k2 ?_; (case q49k1 => k_asm); (case q49k2 => k_asm); k_whole); intro z9l' z9h' z9F' z9N' z9l1; k_dflt (have z9nd' := nd_oneG z9N' (by assumption) z9l1); (simp only [List.map_cons, List.map_nil] at z9nd'); (try clear z9l1); (try k_sweep)))
  k_with "eval Dict" => ((k_here; k_dflt (refine' kdn_str ?q50q ?q50F ?q50N ?q50b ?q50a ?q50l ?q50e ?q50n ?_; (case q50q => rfl); (case q50F => k_asm); (case q50N => k_asm); (case q50b => exact TopRead.nolimit (by k_asm)); (case q50a => rfl); (case q50l => rfl); (case q50e => exact List.cons_ne_nil _ _); (case q50n => exact Nat.le_of_ble_eq_true rfl)); intro z9d' z9h' z9o' z9F' z9N' z9l1 z9lo' z9hd'; k_dflt (have z9nd' := nd_oneG z9N' (by assumption) z9l1); (simp only [List.map_cons, List.map_nil] at z9nd'); (try clear z9l1)))
  k_with "setAttr ref" => ((k_here; k_dflt (refine' set_dict ?q44k1 ?q44k2 ?q44k3 ?q44k4 ?q44k5 ?q44k6 ?q44k7 ?q44k8 ?q44k9 ?q44k10 ?q44k11 ?q44k12 ?q44k13 ?_; (case q44k1 => k_asm); (case q44k2 => k_asm); (case q44k3 => k_asm); (case q44k4 => k_inst); (case q44k5 => exact rfl); (case q44k6 => k_is); (case q44k7 => k_is); (case q44k8 => k_is); (case q44k9 => k_is); (case q44k10 => k_get); (case q44k11 => k_put); (case q44k12 => k_extra "myupd"); (case q44k13 => exact Nat.le_of_ble_eq_true rfl); k_whole; intro z9h' z9F' z9N'; (try dsimp only at z9N'); (try k_sweep); (try dsimp only))))
  k_with "k_room" => (((try simp only [depth_under_make, depth_under_kw, depth_in1, depth_deeper, depth_caller]); decide))
  k_with "call ref" => ((k_here; (with_reducible show wpAny _ _ (call (Value.ref 484) _) _ _ _); k_dflt (refine' newW_c ?q24F ?q24N ?q24X ?q24T ?q24r ?q24nd ?_; (case q24F => k_asm); (case q24N => k_asm); (case q24X => k_asm); (case q24T => k_asm); (case q24r => k_room); (case q24nd => assumption); k_whole); (intro z9h' z9tk' z9W z9dW z9ob z9dob z9rw z9nm z9ce z9dce z9fn z9pl z9va z9dva z9df z9au z9pe z9ba z9dba z9bv z9u1 z9u2 z9u3 z9u4 z9u5 z9u6 z9u7 z9o1 z9o2 z9c1 z9c2 z9v1 z9v2 z9v3 z9l1 z9lt z9rn z9nmO z9fnO z9plO z9dfO z9auO z9peO z9bvO z9F' z9N' z9nd' z9e1 z9e2 z9e3 z9e4 z9e5 z9s1 z9s2 z9s3 z9s4 z9s5); (simp only [List.cons_append, List.nil_append] at z9N'); (simp only [List.map_cons, List.map_nil, List.cons_append, List.nil_append] at z9nd'); (try k_sweep)))
  k_with "call ref" => ((k_here; (with_reducible show wpAny _ _ (call (Value.ref 421) _) _ _ _); k_dflt (refine' newLoc_c ?q24F ?q24N ?q24X ?q24T ?q24r ?q24nd ?_; (case q24F => k_asm); (case q24N => k_asm); (case q24X => k_asm); (case q24T => k_asm); (case q24r => k_room); (case q24nd => assumption); k_whole); (intro z9h' z9tk' z9lo z9dlo z9lv z9t1 z9lvO z9F' z9N' z9nd' z9e1 z9s1); (simp only [List.cons_append, List.nil_append] at z9N'); (simp only [List.map_cons, List.map_nil, List.cons_append, List.nil_append] at z9nd'); (try k_sweep)))
  k_with "call ref" => ((k_here; (with_reducible show wpAny _ _ (call (Value.ref 751) _) _ _ _); k_dflt (refine' newBuf_c ?q24F ?q24N ?q24X ?q24T ?q24r ?q24a ?q24nd ?_; (case q24F => k_asm); (case q24N => k_asm); (case q24X => k_asm); (case q24T => k_asm); (case q24r => k_room); (case q24a => rfl); (case q24nd => assumption); k_whole); (intro z9h' z9tk' z9b z9d z9es z9n z9F' z9N' z9nd' z9e1 z9s1); (simp only [List.cons_append, List.nil_append] at z9N'); (simp only [List.map_cons, List.map_nil, List.cons_append, List.nil_append] at z9nd'); (try k_sweep)))
  k_with "call ref" => ((k_here; (with_reducible show wpAny _ _ (call (Value.ref 758) _) _ _ _); k_dflt (refine' pot_c ?q24F ?q24N ?q24X ?q24T ?q24r ?q24a ?q24nd ?q24L ?q24I ?q24l ?_; (case q24F => k_asm); (case q24N => k_asm); (case q24X => k_asm); (case q24T => k_asm); (case q24r => k_room); (case q24a => rfl); (case q24nd => assumption); (case q24L => exact isList_keep (by assumption) (by assumption)); (case q24I => assumption); (case q24l => omega); k_whole); (intro z9h' z9tk' z9P z9xs z9us z9is z9sd z9ta z9ts z9n1 z9n2 z9F' z9N' z9nd' z9hi9 z9hu9 z9d9 z9d8); (simp only [List.cons_append, List.nil_append] at z9N'); (simp only [List.map_cons, List.map_nil, List.cons_append, List.nil_append] at z9nd'); (try k_sweep)))
  k_with "KdnMade" => ((k_here; k_dflt (refine' kdn_made_str ?q54F ?q54N ?q54U ?q54d ?q54k ?q54n ?_; (case q54F => k_asm); (case q54N => k_asm); (case q54U => k_extra "myupdF"); (case q54d => k_asm); (case q54k => rfl); (case q54n => exact keys6)); intro z9h' z9o' z9F' z9N' z9hd'; (try dsimp only at z9N')))
  k_with "front" => (first | exact Front.head | (refine' Front.tail ?q55c; (case q55c => k_extra "front")))
  k_with "my pyIter" => ((k_here; (with_reducible show wpAny _ _ (pyIter (Value.ref _)) (fun it s₂ => LoopAtV _ _ _ _ _ _ _ _ _ it s₂) _ _); (rename Fr _ _ _ _ => z9lF'); (rename News _ _ _ _ => z9lN'); (rename IsRange _ _ _ _ _ _ _ _ => z9rgX); (with_unfolding_all refine iter_rangeUnr (n := ((5 + _) - 0 : Int).toNat) (by rfl) z9rgX (small_one (by omega) (by omega) (by omega) (by omega)) (rangeSize_nat _ _) z9lF' z9lN' (Hold.mk ?_))))
  k_with "my pyIter" => ((k_here; (with_reducible show wpAny _ _ (pyIter (Value.ref _)) (fun it s₂ => LoopAtV _ _ _ _ _ _ _ _ _ it s₂) _ _); (rename Fr _ _ _ _ => z9lF'); (rename News _ _ _ _ => z9lN'); (rename IsRange _ _ _ _ _ _ _ _ => z9rgX); (with_unfolding_all refine iter_rangeUnr (n := 2) (by rfl) z9rgX (by first | decide | rfl) (by first | decide | rfl) z9lF' z9lN' ?_); clear z9lF' z9lN'; intro z9i' z9l1; (k_dflt (have z9nd' := nd_consG (by assumption) z9l1)); (simp only [List.map_cons, List.map_nil] at z9nd'); clear z9l1))
  k_with "RangeRest" => (first | ((with_unfolding_all refine RangeRest.succ (fun z9t' z9h' z9tk' z9F' z9N' => ?_)); (k_dflt (have z9nd' := nd_front z9N' (by assumption) (by k_extra "front"))); (simp only [List.map_cons, List.map_nil] at z9nd')) | ((with_unfolding_all refine RangeRest.zero (fun z9h' z9tk' z9F' z9N' => ?_)); (k_dflt (have z9nd' := nd_frontZ z9N' (by assumption) (by k_extra "front"))); (simp only [List.map_cons, List.map_nil] at z9nd')))
  k_with "newTuple" => ((k_here; k_dflt (refine' kup_newTuple ?q57F ?q57N ?_ ?q57z; (case q57F => k_asm); (case q57N => k_asm); (case q57z => kmk_size)); intro z9D' z9h' z9F' z9N' z9l1; k_dflt (have z9nd' := nd_oneG z9N' (by assumption) z9l1); (simp only [List.map_cons, List.map_nil] at z9nd'); (clear z9l1); (try k_sweep)))
  k_with "setAttr ref" => ((k_here; k_dflt (refine' set_locals ?q44k1 ?q44k2 ?q44k3 ?q44k4 ?q44k5 ?q44k6 ?q44k7 ?q44k8 ?q44k9 ?q44k10 ?q44k11 ?q44k12 ?_; (case q44k1 => k_asm); (case q44k2 => k_asm); (case q44k3 => k_asm); (case q44k4 => k_inst); (case q44k5 => exact rfl); (case q44k6 => k_is); (case q44k7 => k_is); (case q44k8 => k_is); (case q44k9 => k_is); (case q44k10 => assumption); (case q44k11 => assumption); (case q44k12 => k_extra "myupdF"); k_whole; intro z9h' z9es' z9n' z9F' z9N' z9e9; (try dsimp only at z9N'); (try k_sweep); (try dsimp only))))
  k_with "callWith" => (with_reducible (first | refine cw_dict ?_ | refine cw_list ?_))
  k_with "callWith ref" => ((k_here; (with_reducible refine callWith_K0 (by k_dflt (exact Frag.In.keeps (by k_asm) (Fr.keep (by k_asm)))) (by k_dflt k_is) ?_); (try dsimp only [List.append_nil, List.nil_append])))
  k_with "pull" => (first | exact Pull.head | (refine' Pull.tail ?q60c; (case q60c => k_extra "pull")))
  k_with "UnrEnd" => ((k_dflt (refine unr_pull (by k_asm) (by k_asm) (by assumption) (by k_extra "pull") ?_)))
  k_with "sel" => (first | exact Sel.nil | (refine Sel.cons (by k_extra "front") ?_; k_extra "sel"))
  k_with "call ref" => ((k_here; (with_reducible show wpAny _ _ (call (Value.ref 765) _) _ _ _); k_dflt (refine' dip_c ?q24F ?q24N ?q24X ?q24T ?q24r ?q24m1 ?q24m2 ?q24nd ?q24hI ?q24hz ?q24h0 ?q24h1 ?q24s0 ?q24s1 ?q24hm ?q24hm2 ?_; (case q24F => k_asm); (case q24N => k_asm); (case q24X => k_asm); (case q24T => k_asm); (case q24r => k_room); (case q24m1 => k_mem); (case q24m2 => k_mem); (case q24nd => (refine' Sel.nodup ?q24s ?q24n; (case q24n => assumption); (case q24s => k_extra "sel"))); (case q24hI => k_asm); (case q24hz => k_asm); (case q24h0 => omega); (case q24h1 => omega); (case q24s0 => omega); (case q24s1 => omega); (case q24hm => decide); (case q24hm2 => decide); k_whole); (intro z9h' z9tk' z9r' z9tr' z9n1' z9sd' z9ta' z9ts' z9F' z9ho' z9B' z9r0' z9r1' z9s0' z9s1'); k_dflt (have z9N' := upd_news (by k_asm) z9B' z9ho' (by k_updF)); (try dsimp only at z9N'); (try k_sweep)))
  k_with "call ref" => ((k_here; (with_reducible show wpAny _ _ (call (Value.ref 765) _) _ _ _); k_dflt (refine' dip_c ?q24F ?q24N ?q24X ?q24T ?q24r ?q24m1 ?q24m2 ?q24nd ?q24hI ?q24hz ?q24h0 ?q24h1 ?q24s0 ?q24s1 ?q24hm ?q24hm2 ?_; (case q24F => k_asm); (case q24N => k_asm); (case q24X => k_asm); (case q24T => k_asm); (case q24r => k_room); (case q24m1 => k_mem); (case q24m2 => k_mem); (case q24nd => (k_extra "sublist")); (case q24hI => k_asm); (case q24hz => k_asm); (case q24h0 => omega); (case q24h1 => omega); (case q24s0 => omega); (case q24s1 => omega); (case q24hm => decide); (case q24hm2 => decide); k_whole); (intro z9h' z9tk' z9r' z9tr' z9n1' z9sd' z9ta' z9ts' z9F' z9ho' z9B' z9r0' z9r1' z9s0' z9s1'); k_dflt (have z9N' := upd_news (by k_asm) z9B' z9ho' (by k_updF)); (try dsimp only at z9N'); (try k_sweep)))
  k_with "call ref" => ((k_here; (with_reducible show wpAny _ _ (call (Value.ref 786) _) _ _ _); first
  | (k_dflt (refine' done_0 ?q24F ?q24N ?q24X ?q24T ?q24r ?q24a ?q24nd ?q24O ?q24I ?q24C ?q24hn ?q24hI ?q24hz ?q24h0 ?q24h1 ?q24s0 ?q24s1 ?_; (case q24F => k_asm); (case q24N => k_asm); (case q24X => k_asm); (case q24T => k_asm); (case q24r => k_room); (case q24a => rfl); (case q24nd => assumption); (case q24O => assumption); (case q24I => assumption); (case q24C => assumption); (case q24hn => omega); (case q24hI => assumption); (case q24hz => assumption); (case q24h0 => omega); (case q24h1 => omega); (case q24s0 => omega); (case q24s1 => omega)); (intro z9h' z9tk' z9m2 z9n1' z9k1 z9sd' z9ta' z9ts' z9F' z9N' z9nd' z9I2 z9C2 z9b1 z9b2 z9b3 z9b4); (try k_sweep))
  | (k_dflt (refine' done_1 ?q24F ?q24N ?q24X ?q24T ?q24r ?q24a ?q24nd ?q24O ?q24I ?q24C ?q24hn ?q24hI ?q24hz ?q24h0 ?q24h1 ?q24s0 ?q24s1 ?_; (case q24F => k_asm); (case q24N => k_asm); (case q24X => k_asm); (case q24T => k_asm); (case q24r => k_room); (case q24a => rfl); (case q24nd => assumption); (case q24O => assumption); (case q24I => assumption); (case q24C => assumption); (case q24hn => omega); (case q24hI => assumption); (case q24hz => assumption); (case q24h0 => omega); (case q24h1 => omega); (case q24s0 => omega); (case q24s1 => omega)); (intro z9h' z9tk' z9m2 z9n1' z9k1 z9sd' z9ta' z9ts' z9F' z9N' z9nd' z9I2 z9C2 z9b1 z9b2 z9b3 z9b4); (try k_sweep))))
  k_with "call ref" => ((k_here; (with_reducible show wpAny _ _ (call (Value.ref 793) _) _ _ _); first
  | (k_dflt (refine' is_0 ?q24F ?q24N ?q24X ?q24T ?q24r ?q24a ?q24nd ?q24O ?q24I ?q24C ?q24hn ?_; (case q24F => k_asm); (case q24N => k_asm); (case q24X => k_asm); (case q24T => k_asm); (case q24r => k_room); (case q24a => rfl); (case q24nd => assumption); (case q24O => assumption); (case q24I => assumption); (case q24C => assumption); (case q24hn => omega)); (intro z9h' z9tk' z9m2 z9F' z9N' z9nd' z9I2 z9C2); (try k_sweep))
  | (k_dflt (refine' is_1 ?q24F ?q24N ?q24X ?q24T ?q24r ?q24a ?q24nd ?q24O ?q24I ?q24C ?q24hn ?_; (case q24F => k_asm); (case q24N => k_asm); (case q24X => k_asm); (case q24T => k_asm); (case q24r => k_room); (case q24a => rfl); (case q24nd => assumption); (case q24O => assumption); (case q24I => assumption); (case q24C => assumption); (case q24hn => omega)); (intro z9h' z9tk' z9m2 z9F' z9N' z9nd' z9I2 z9C2); (try k_sweep))))
  k_with "call ref" => ((k_here; (with_reducible show wpAny _ _ (call (Value.ref 460) _) _ _ _); first
  | (k_dflt (refine' sym_0 ?q24F ?q24N ?q24X ?q24T ?q24r ?q24nd ?q24O ?q24I ?q24C ?q24hn ?q24g1 ?q24g2 ?_; (case q24F => k_asm); (case q24N => k_asm); (case q24X => k_asm); (case q24T => k_asm); (case q24r => k_room); (case q24nd => assumption); (case q24O => assumption); (case q24I => assumption); (case q24C => assumption); (case q24hn => omega); (case q24g1 => decide); (case q24g2 => decide)); (intro z9h' z9tk' z9m2 z9y z9F' z9N' z9nd' z9I2 z9C2 z9hy); (try k_sweep))
  | (k_dflt (refine' sym_1 ?q24F ?q24N ?q24X ?q24T ?q24r ?q24nd ?q24O ?q24I ?q24C ?q24hn ?q24g1 ?q24g2 ?q24hy ?_; (case q24F => k_asm); (case q24N => k_asm); (case q24X => k_asm); (case q24T => k_asm); (case q24r => k_room); (case q24nd => assumption); (case q24O => assumption); (case q24I => assumption); (case q24C => assumption); (case q24hn => omega); (case q24g1 => decide); (case q24g2 => decide); (case q24hy => assumption)); (intro z9h' z9tk' z9m2 z9y z9F' z9N' z9nd' z9I2 z9C2 z9hy z9hne); (try k_sweep))))
  k_with "k_mem" => (with_reducible (first | exact mem_W0 | exact mem_W1 | exact mem_D0 | exact mem_D1))
  k_with "compareOp IsNot ref ref" => ((k_here; k_dflt (refine isNot_sy (by k_asm) (by assumption) (by assumption) (by assumption) ?_)))
  k_with "call ref" => ((k_here; (with_reducible show wpAny _ _ (call (Value.ref 765) [Value.ref _, Value.int 2 _]) _ _ _); refine Hold.mk ?_))
  trivial
local macro_rules | `(tactic| k_qdec) => `(tactic| decide +kernel)
theorem law_x : PySem.Challenge.rw_ok0067_01.Holds := by
  w_on
  refine holds_law said0 fun said => ?_
  refine holds_open (q := vw) (loose := lo) (Xt := Xt) (XP := XL vw []) (Yf := Hook.obs (kHook hd.heap_1 asK asK_eq)) (Ya := Hook.val (kHook hd.heap_1 asK asK_eq)) (YP := Hook.says (kHook hd.heap_1 asK asK_eq)) (N := 11496) left (Hook.of (kHook hd.heap_1 asK asK_eq)) (Hook.keeps (kHook hd.heap_1 asK asK_eq)) (fun s e => xl_of s (Bool.and_eq_true_iff.mp e).1) XL.keeps (by rfl) (by rfl) (by rfl) (fun s e => recFacts_of (Bool.and_eq_true_iff.mp e).2) (by rfl) said (by decide +kernel) ⟨rfl, rfl, rfl, rfl, rfl, by decide +kernel⟩ ?hw ?hc
  case hw => w_witness2
  case hc =>
    clear said
    w_strict (k_go0; (rename Top _ _ _ _ _ _ => TT); (have TR := topRead_of TT); (have nd0 : ([] : List Addr).Nodup := List.nodup_nil); (rename World => w9); (rename Fr _ _ _ _ => F0); (refine split_st F0 (fun fm0 fm' news' => ∃ (z : St) (bs : PySem.Str → Option Value), news' = z.led w9.params ∧ St.Ok w9 z 0 ∧ z.k0 = 0 ∧ fm' = fmLaw z bs) ?pre ?post); (case pre => (k_steps; (rename News _ _ _ _ => N9); (rename Fr _ _ _ _ => F9); exact start_all F9 N9 (by assumption) (by rfl) (by k_extra "mem") (by k_extra "mem") (by k_extra "mem") (by k_extra "mem") (by k_extra "mem") (by k_extra "mem") (by k_extra "mem") (by k_extra "mem") (by k_extra "mem") (by k_extra "mem") (by k_extra "mem") (by k_extra "mem") (by k_extra "mem") (by k_extra "mem") (by k_extra "mem") (by k_extra "mem") (by k_extra "mem") (by k_extra "mem") (by k_extra "mem") (by k_extra "mem") (by k_extra "mem") (by k_extra "mem") (by k_extra "mem") (by k_extra "mem") (by k_extra "mem") (by k_extra "mem") (by k_extra "mem") (by assumption) (by assumption) (by k_extra "mem") (by k_extra "mem") (by k_extra "mem") (by k_extra "mem") (by assumption) (by k_extra "mem") (by k_extra "mem") (by k_extra "mem") (by k_extra "mem") (by k_extra "mem") (by assumption) (by assumption) (by assumption) (by assumption) (by assumption) (by assumption) (by assumption) (by assumption) (by assumption) (by assumption) (by assumption) (by assumption) (by assumption) (by assumption) (by assumption) (by assumption) (by assumption) (by assumption) (by assumption) (by assumption) (by assumption) (by assumption) (by assumption) (by k_extra "mem") (by k_extra "mem") (by k_extra "mem") (by k_extra "mem") (by k_extra "mem") (by k_extra "mem") (by k_extra "mem") (by k_extra "mem") (by k_extra "mem") (by k_extra "mem") (by k_extra "mem") (by k_extra "mem") (by k_extra "mem") (by k_extra "mem") (by k_extra "mem") (by k_extra "mem") (by k_extra "mem") (by k_extra "mem") (by k_extra "mem") (by k_extra "mem") (by k_extra "mem") (by assumption) (by assumption) (by k_extra "mem") (by k_extra "mem") (by k_extra "mem") (by k_extra "mem") (by assumption) (by k_extra "mem") (by k_extra "mem") (by k_extra "mem") (by k_extra "mem") (by k_extra "mem") (by assumption) (by assumption) (by assumption) (by assumption) (by assumption) (by assumption) (by assumption) (by assumption) (by assumption) (by assumption) (by assumption) (by assumption) (by assumption) (by assumption) (by assumption) (by assumption) (by assumption) (by assumption) (by assumption) (by assumption) (by assumption) (by assumption) (by assumption) (by assumption) (by assumption) (by assumption) (by assumption) (by k_extra "sel"))); (case post => (clear F0; clear nd0; intro h9 tk9 fm9 news9 F9 N9 hz9; obtain ⟨⟨P, xs, wl, hl, kl, bl, k0, sd, ta, ts, tn, tm, n1, n2, nw, nh, nk, nb, us, ns, c0, c1, m0, m1⟩, bs, rfl, ⟨nd9, o0, o1, i0, i1, p0, p1, hI9, hz9, s0, s1, kk⟩, zk, rfl⟩ := hz9; (delta St.led at N9 nd9); (delta fmLaw at F9); dsimp only at N9 nd9 F9 o0 o1 i0 i1 p0 p1 hI9 hz9 s0 s1 kk zk; subst zk; k_steps; (refine Hold.of ?_); intro I9 l9; (have ndI := nd_consI (l := (P, listOf [Value.ref xs, .int 0 ta, .int sd ts].toArray n1) :: (xs, listOf us.toArray n2) :: (wl, listOf [Value.ref c0.W, .ref c1.W].toArray nw) :: (hl, listOf [Value.ref c0.H, .ref c1.H].toArray nh) :: (kl, listOf [Value.ref c0.Kn, .ref c1.Kn].toArray nk) :: (bl, listOf [Value.ref c0.bl, .ref c1.bl].toArray nb) :: (CE w9.params c0 m0 ++ CE w9.params c1 m1)) (I := I9) nd9 (by simpa only [List.forall_mem_cons] using l9)); (refine range_inv (JT w9 bs I9) ?step ?fin _ 0 _ _ (Nat.zero_add _) ?start); (case start => exact ⟨⟨P, xs, wl, hl, kl, bl, 0 + 1, _, _, _, tn, tm, _, n2, nw, nh, nk, nb, us, ns, c0, c1, m0, m1⟩, _, _, _, rfl, ndI, ⟨nd9, o0, o1, i0, i1, p0, p1, hI9, hz9, (by assumption), (by assumption), (show (0 : Int) ≤ 0 + 1 by decide)⟩, (show (0 : Int) + 1 ≤ 1 + 4 * ((0 : Nat) : Int) by decide), fm_start _ _ _ _ _ _ _ _⟩); (case fin => (clear ndI l9 nd9 o0 o1 i0 i1 p0 p1 hI9 hz9; intro fm news h tk hJ F N; obtain ⟨⟨P, xs, wl, hl, kl, bl, k0, sd, ta, ts, tn, tm, n1, n2, nw, nh, nk, nb, us, ns, c0, c1, m0, m1⟩, a, b, c, rfl, ndI, ⟨nd9, o0, o1, i0, i1, p0, p1, hI9, hz9, s0, s1, kk⟩, hk, rfl⟩ := hJ; (delta St.led at N nd9 ndI); (delta fmT at F); dsimp only at N nd9 ndI F o0 o1 i0 i1 p0 p1 hI9 hz9 s0 s1 kk hk; k_steps)); (case step => (clear ndI l9 nd9 o0 o1 i0 i1 p0 p1 hI9 hz9; intro i fm news h tk t o hJ hi F N; obtain ⟨⟨P, xs, wl, hl, kl, bl, k0, sd, ta, ts, tn, tm, n1, n2, nw, nh, nk, nb, us, ns, c0, c1, m0, m1⟩, a, b, c, rfl, ndI, ⟨nd9, o0, o1, i0, i1, p0, p1, hI9, hz9, s0, s1, kk⟩, hk, rfl⟩ := hJ; (delta St.led at N nd9 ndI); (delta fmT at F); dsimp only at N nd9 ndI F o0 o1 i0 i1 p0 p1 hI9 hz9 s0 s1 kk hk; (have hi13 : i ≤ 13 := by omega); (show wpAny _ _ _ _ _ _); (try k_fold); k_steps; (refine Hold.of ?_); k_dflt (refine' dip_c ?F ?N ?X ?T ?r ?m1 ?m2 ?nd ?hI ?hz ?h0 ?h1 ?s0 ?s1 ?hm ?hm2 ?_; (case F => k_asm); (case N => k_asm); (case X => k_asm); (case T => k_asm); (case r => k_room); (case m1 => k_mem); (case m2 => k_mem); (case nd => (k_extra "sublist")); (case hI => k_asm); (case hz => k_asm); (case h0 => omega); (case h1 => omega); (case s0 => omega); (case s1 => omega); (case hm => decide); (case hm2 => decide); k_whole); (intro h1 tk1 r tr n1' sd1 ta1 ts1 F1 ho1 B1 r0 r1 s01 s11); (have N1 := upd_news N B1 ho1 (by k_updF)); (try dsimp only at N1); clear N F B1 ho1; (rcases two_cases r0 r1 with rfl | rfl); (all_goals k_steps); all_goals exact JT.mk (z := ⟨P, xs, wl, hl, kl, bl, _, _, _, _, tn, tm, _, n2, nw, nh, nk, nb, us, ns, c0, c1, _, _⟩) rfl (fm_turn _ _ _ _ _ _ _ _ _ _ _ _ _) (by assumption) o0 o1 (by assumption) (by assumption) (by assumption) (by assumption) (by omega) (by omega) hI9 hz9 (by assumption) (by assumption) (by dsimp only; omega) (by dsimp only; omega))))))
end
theorem words25 : True := by
  k_with_none
  k_with "my_enter" => ((refine wpAny_call ?_; refine' code_foot ?q0k1 ?q0k2 ?q0k3 ?q0k4 ?q0k5 ?q0k6 ?q0k7 ?q0k8 _ ?q0kN ?_ ?q0c2 ?q0c3 ?q0c4 ?q0c5; (case q0k1 => k_asm); (case q0k2 => k_asm); (case q0k3 => k_asm); (case q0k4 => k_is); (case q0k5 => k_is); (case q0k6 => omega); (case q0k7 => first | exact BindsTo.of_eq rfl | exact binds_K (by k_in) rfl (by k_is) rfl rfl rfl); (case q0k8 => exact locs rfl); (case q0kN => assumption); (case q0c2 => exact rfl); (case q0c3 => exact rfl); (case q0c4 => exact rfl); (case q0c5 => decide); (intro z9g' z9L' z9h' z9F' z9N' z9X' z9T' z9l1 z9hgk); (try k_lt z9l1); dsimp only; (show wpAny _ _ _ _ _ _); k_fold))
  k_with "k_room" => (((try simp only [depth_under_make, depth_under_kw, depth_in1, depth_deeper]); omega))
  k_with "call builtin:dict.get" => ((k_here; k_dflt (first
  | refine kdg_get1 (knd := PySem.strKind _ _) (by k_asm) (by k_mem) (by k_asm) (by k_asm) (strKind_is _ _ _ _) _ (by first | k_asm | rfl) ?_
  | refine kdg_get2 (knd := PySem.strKind _ _) (by k_asm) (by k_mem) (by k_asm) (by k_asm) (strKind_is _ _ _ _) _ (by first | k_asm | rfl) ?_
  | refine kdg_get1 (knd := PySem.intKind _ _) (by k_asm) (by k_mem) (by k_asm) (by k_asm) (intKind_is _ _ _ _) _ (by first | k_asm | rfl) ?_
  | refine kdg_get2 (knd := PySem.intKind _ _) (by k_asm) (by k_mem) (by k_asm) (by k_asm) (intKind_is _ _ _ _) _ (by first | k_asm | rfl) ?_); (try dsimp only [Option.getD_some, Option.getD_none])))
  k_with "getMethod ref" => ((k_here; (with_reducible show wpAny _ _ (getMethod (Value.ref _) (Str.ofString "get") _) _ _ _); k_dflt (first
  | refine kdg_method (knd := PySem.strKind _ _) (by k_asm) (by k_mem) (by k_asm) ?_
  | refine kdg_method (knd := PySem.intKind _ _) (by k_asm) (by k_mem) (by k_asm) ?_)))
  k_with "compareOp In int ref" => ((k_here; k_dflt (refine kda_in (knd := PySem.intKind _ _) (by k_asm) (by k_mem) (by k_asm) (by k_asm) (intKind_is _ _ _ _) _ (by rfl) ?_)))
  k_with "compareOp In str ref" => ((k_here; k_dflt (refine kda_in (knd := PySem.strKind _ _) (by k_asm) (by k_mem) (by k_asm) (by k_asm) (strKind_is _ _ _ _) _ (by rfl) ?_)))
  k_with "compareOp NotIn int ref" => ((k_here; k_dflt (refine kdg_notin (knd := PySem.intKind _ _) (by k_asm) (by k_mem) (by k_asm) (by k_asm) (intKind_is _ _ _ _) _ (by rfl) ?_)))
  k_with "compareOp NotIn str ref" => ((k_here; k_dflt (refine kdg_notin (knd := PySem.strKind _ _) (by k_asm) (by k_mem) (by k_asm) (by k_asm) (strKind_is _ _ _ _) _ (by rfl) ?_)))
  k_with "nd1" => (first | (refine NdGoal.left ?_; k_mem) | (refine NdGoal.right ?_; k_mem) | (refine NdGoal.tail ?_; k_extra "nd1"))
  k_with "nd" => (first | assumption | exact Ne.symm (by assumption) | (refine' nd_start ?q10ND ?_; (case q10ND => assumption); k_extra "nd1"))
  k_with "k_ne" => ((refine neN ?_; (try dsimp only); k_extra "nd"))
  k_with "setItem ref int" => ((k_here; k_dflt (refine' kda_set (knd := PySem.intKind _ _) ?q12F ?q12N ?q12U ?q12d (intKind_is _ _ _ _) ?q12z ?_; (case q12F => k_asm); (case q12N => k_asm); (case q12U => k_updF); (case q12d => k_asm); (case q12z => rw [sizeLine_eq]; omega)); intro z9h' z9o' z9F' z9N' z9hd'; (try dsimp only at z9N'); (try k_sweep)))
  k_with "setItem ref str" => ((k_here; k_dflt (refine' kda_set (knd := PySem.strKind _ _) ?q13F ?q13N ?q13U ?q13d (strKind_is _ _ _ _) ?q13z ?_; (case q13F => k_asm); (case q13N => k_asm); (case q13U => k_updF); (case q13d => k_asm); (case q13z => rw [sizeLine_eq]; omega)); intro z9h' z9o' z9F' z9N' z9hd'; (try dsimp only at z9N'); (try k_sweep)))
  k_with "mem" => (first | exact List.Mem.head _ | (refine List.Mem.tail _ ?_; k_extra "mem"))
  k_with "sub_but" => ((refine' List.forall_mem_cons.mpr ⟨?q15a, ?q15b⟩; (case q15a => (intro z9hne; first | exact absurd rfl z9hne | k_extra "mem")); (case q15b => first | exact List.forall_mem_nil _ | k_extra "sub_but")))
  k_with "chg" => (first | exact Chg.head | (refine' Chg.tail ?q16c; (case q16c => k_extra "chg")))
  k_with "sub" => (first | exact (fun _ z9hp => z9hp) | (intro z9p z9hp; refine List.mem_cons_of_mem _ ?_; revert z9p; k_extra "sub"))
  k_with "call builtin:dict.pop" => ((k_here; k_dflt (first
  | (refine' my_pop1 (knd := PySem.intKind _ _) ?q18F ?q18N ?q18U ?q18d (intKind_is _ _ _ _) ?q18p ?q18l ?q18z ?_; (case q18F => k_asm); (case q18N => k_asm); (case q18U => k_updF); (case q18d => k_asm); (case q18p => rfl); (case q18l => k_asm); (case q18z => rw [sizeLine_eq]; omega); intro z9h' z9o' z9v' z9F' z9N' z9hd')
  | (refine' my_pop2 (knd := PySem.strKind _ _) ?q18F ?q18N ?q18U ?q18d ?q18lo (strKind_is _ _ _ _) ?q18p ?q18z ?_; (case q18F => k_asm); (case q18N => k_asm); (case q18U => k_updF); (case q18d => k_asm); (case q18lo => k_asm); (case q18p => rfl); (case q18z => rw [sizeLine_eq]; omega); intro z9h' z9o' z9v' z9tk' z9F' z9N' z9hd')); (try dsimp only at z9N'); (try k_sweep)))
  k_with "sub_but2" => ((refine' List.forall_mem_cons.mpr ⟨?q19a, ?q19b⟩; (case q19a => (intro z9hne z9hne2; first | exact absurd rfl z9hne | exact absurd rfl z9hne2 | k_extra "mem")); (case q19b => first | exact List.forall_mem_nil _ | k_extra "sub_but2")))
  trivial
end
theorem words26 : True := by
  k_with_none
  trivial
end Mine
set_option maxRecDepth 100000 in
theorem PySem.Challenge.cw_ok0067_01_holds : PySem.Challenge.rw_ok0067_01.Holds :=
  Mine.law_x
